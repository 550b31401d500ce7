import PyProof.Rows.All
import Wide.All
import OpenK.AllK
import Wide.FinOn
import HandS.ForMost
import HandS.TupMul
import HandS.Wide
import HandS.Gcd
import HandS.IsInst
import HandS.More
import HandS.RaiseMore
import HandS.Style
import HandS.Deep
import HandS.TupAny
import PyProof.ReprRoads
import PyProof.P3In
import KE.KSortedM
import PyProof.Rows.RuleB_bool
import PyProof.ReprBulk
import HandS.Iter
import HandS.Comp
import HandS.Defaults
import HandS.SetFor
import KE.GoesEnum
import HandS.NoneIn
import HandS.Exc
import HandS.HeadEnd
import HandS.HeadHook1
import HandS.HeadHook2
import HandS.Head3
import PySem.Challenge.RW_evenmarks_k24_whole_shares_between_neigh
import KE.KIntText
import PyProof.ReprText
set_option Elab.async false
set_option linter.all false
set_option maxRecDepth 100000
set_option maxHeartbeats 4000000
/-! Ev, part A: plain data, a small language with slots, its evaluator. -/
namespace Ev
open PySem

/-- plain data -/
inductive D where
  | non | bl (b : Bool) | int (i : Int) | str (s : Str) | tup (xs : List D) | lst (xs : List D) | fn (f : Nat) | scr (ns : List Int)
instance : Inhabited D := ⟨.non⟩

/-- a value: data, or a list just made that nobody else holds -/
inductive T where
  | d (x : D) | fr (xs : List D)

/-- a slot: not stored yet; data; a list that this slot alone holds (0: its own, 1: lent by the caller, two more: being walked) -/
inductive Sl where
  | un | d (x : D) | own (xs : List D) (m : Nat)

abbrev En := List Sl

/-- what an operand came to: a value, or the own list of a slot -/
inductive Ag where
  | v (t : T) | r (i : Nat)

inductive Ty where
  | int | bool | str | tuple | list
  deriving DecidableEq

/-- what reads its operands and keeps none of them -/
inductive Op where
  | add | sub | mul | fdiv | mod | pow | shl
  | neg | no
  | eq | ne | lt | le | gt | ge | isN | notN | isB | notB | isin | notin
  | ix | sl (lo hi : Bool) | rev
  | len | toInt | abs | max2 | min2 | all | any | sum | tuple | list | repr | sorted | maxL | minL | gcd | divmod
  | idI
  | isi (ts : List Ty)
  deriving DecidableEq

/-- what is walked -/
inductive Wk where
  | seq | range | enum | zip
  deriving DecidableEq

/-- what changes the own list of a slot -/
inductive Mt where
  | append | extend | insert | pop | popAt | reverse
  deriving DecidableEq

/-- what asks a list -/
inductive Me where
  | index | count
  deriving DecidableEq

/-- a target made of names -/
inductive Tn where
  | nm (i : Nat) | tp (ts : List Tn)

inductive E where
  | var (i : Nat)
  | lit (x : D)
  | op (o : Op) (es : List E)
  | tup (es : List E)
  | lst (es : List E)
  | and (a b : E)
  | or (a b : E)
  | ite (c a b : E)
  | chain (o o' : Op) (a b c : E)
  | call (f : Nat) (rf : List Bool) (pm : List Nat) (es : List E)
  | comp (elt : E) (tg : Tn) (k : Wk) (es : List E) (cond : List E) (own : List Nat)
  | mut (m : Mt) (i : Nat) (es : List E)
  | met (m : Me) (i : Nat) (es : List E)

/-- a target: names, or a place of a slot's own list -/
inductive Tg where
  | n (t : Tn) | sb (i : Nat) (k : E)

inductive S where
  | asg (t : Tn) (e : E)
  | set (i : Nat) (k e : E)
  | unp (ts : List Tg) (e : E)
  | par (ts : List Tg) (es : List E)
  | aug (i : Nat) (o : Op) (e : E)
  | augS (i : Nat) (k : E) (o : Op) (e : E)
  | ifs (c : E) (a b : List S)
  | ifl (c : E) (a b : List S)
  | whl (c : E) (body : List S)
  | for (tg : Tn) (k : Wk) (es : List E) (body : List S)
  | ret (e : E)
  | retN
  | expr (e : E)
  | brk | cont | pass
  | never

/-! ### equality, nesting -/
mutual
def eqD : D → D → Bool
  | .non, .non => true
  | .bl a, .bl b => a == b
  | .bl a, .int b => (if a then 1 else 0) == b
  | .int a, .bl b => a == (if b then 1 else 0)
  | .int a, .int b => a == b
  | .str a, .str b => a == b
  | .tup a, .tup b => eqDs a b
  | .lst a, .lst b => eqDs a b
  | _, _ => false
def eqDs : List D → List D → Bool
  | [], [] => true
  | a :: x, b :: y => eqD a b && eqDs x y
  | _, _ => false
end
mutual
/-- data without defs, of nesting at most n -/
def sh : Nat → D → Bool
  | _, .non => true
  | _, .bl _ => true
  | _, .int _ => true
  | _, .str s => s.cps.all (· < 0x110000)
  | 0, .tup _ => false
  | 0, .lst _ => false
  | n + 1, .tup xs => shs n xs
  | n + 1, .lst xs => shs n xs
  | _, .fn _ => false
  | _, .scr _ => false
def shs : Nat → List D → Bool
  | _, [] => true
  | n, x :: xs => sh n x && shs n xs
end
mutual
/-- as the library's data -/
def toPy : D → PyData
  | .non => .none
  | .bl b => .bool b
  | .int i => .int i
  | .str s => .str s
  | .tup xs => .tuple (toPys xs)
  | .lst xs => .list (toPys xs)
  | .fn _ => .none
  | .scr _ => .none
def toPys : List D → List PyData
  | [] => []
  | x :: xs => toPy x :: toPys xs
end
mutual
/-- a bound of how long its text is -/
def wt : D → Nat
  | .non => 4
  | .bl _ => 5
  | .int _ => 1902
  | .str s => 10 * s.length + 2
  | .tup xs => wts xs + 3
  | .lst xs => wts xs + 3
  | .fn _ => 0
  | .scr _ => 0
def wts : List D → Nat
  | [] => 0
  | x :: xs => wt x + 2 + wts xs
end
mutual
/-- intsD of at most 1,900 bits -/
def wee : D → Bool
  | .int i => Nat.ble (i.natAbs.log2 + 1) 1900
  | .tup xs => wees xs
  | .lst xs => wees xs
  | .str s => s.cps.all (fun c => Nat.blt c 1114112)
  | _ => true
def wees : List D → Bool
  | [] => true
  | x :: xs => wee x && wees xs
end

/-! ### operators -/
def line : Nat := 16777216
/-- the place that an index of any sign means -/
abbrev ixN := L2.ixN
def atI (xs : List D) (i : Int) : Option D := (ixN xs.length i).bind fun j => xs[j]?
/-- the bounds of a slice -/
def cutD (xs : List D) (lo hi : Option Int) : List D := (xs.drop (HT.sIx xs.length 0 lo)).take (HT.sIx xs.length xs.length hi - HT.sIx xs.length 0 lo)
def boolsD : List D → Option (List Bool)
  | [] => some []
  | .bl b :: r => (boolsD r).map (b :: ·)
  | _ => none
def intsD : List D → Option (List Int)
  | [] => some []
  | .int i :: r => (intsD r).map (i :: ·)
  | _ => none
/-- one list of numbers ahead of another one -/
def lexI : List Int → List Int → Bool
  | [], [] => false
  | [], _ :: _ => true
  | _ :: _, [] => false
  | x :: xs, y :: ys => if x = y then lexI xs ys else decide (x < y)
/-- boolsD count as 0, 1 -/
def num : D → Option Int
  | .int i => some i
  | .bl b => some (if b then 1 else 0)
  | _ => none
def items : D → Option (List D)
  | .lst xs => some xs
  | .tup xs => some xs
  | .scr ns => some (ns.map .int)
  | _ => none
def bigI (i : Int) : Nat := i.natAbs.log2
def mulOk (i j : Int) : Bool := Nat.blt (bigI i + bigI j) 100000000
def divOk (j : Int) : Bool := j != 0 && Nat.blt (bigI j) 9000
def isTy : D → Ty → Bool
  | .int _, .int => true
  | .bl _, .int => true
  | .bl _, .bool => true
  | .str _, .str => true
  | .tup _, .tuple => true
  | .lst _, .list => true
  | _, _ => false
def isFn : D → Bool
  | .fn _ => true
  | .scr _ => true
  | _ => false
def insI (x : Int) : List Int → List Int
  | [] => [x]
  | y :: r => if x ≤ y then x :: y :: r else y :: insI x r
def sortI : List Int → List Int
  | [] => []
  | x :: r => insI x (sortI r)
def idxOf (x : D) : List D → Nat → Option Nat
  | [], _ => none
  | y :: r, k => if eqD y x then some k else idxOf x r (k + 1)
def cmpI (o : Op) (i j : Int) : Option Bool := match o with
  | .lt => some (decide (i < j))
  | .le => some (decide (i ≤ j))
  | .gt => some (decide (j < i))
  | .ge => some (decide (j ≤ i))
  | _ => none
def bD (b : Bool) : Option T := some (.d (.bl b))
def iD (i : Int) : Option T := some (.d (.int i))
def rangeD (lo : Int) (n : Nat) : List D := (List.range n).map fun i => .int (lo + (i : Nat))
def opF : Op → List D → Option T
  | .add, [.int a, .int b] => iD (a + b)
  | .add, [.bl a, .int b] => none
  | .add, [.int a, .bl b] => iD (a + (if b then 1 else 0))
  | .add, [.str a, .str b] => if a.length + b.length ≤ line then some (.d (.str (a ++ b))) else none
  | .add, [.lst a, .lst b] => if a.length + b.length ≤ line then some (.fr (a ++ b)) else none
  | .add, [.tup a, .tup b] => if a.length + b.length ≤ line then some (.d (.tup (a ++ b))) else none
  | .sub, [.int a, .int b] => iD (a - b)
  | .sub, [.bl a, .bl b] => iD ((if a then 1 else 0) - (if b then 1 else 0))
  | .mul, [.int a, .int b] => if mulOk a b then iD (a * b) else none
  | .mul, [.tup a, .int b] => if a.length ≠ 0 ∧ 2 ≤ b ∧ b ≤ 1000 ∧ a.length ≤ 1000 then some (.d (.tup (List.replicate b.toNat a).flatten)) else none
  | .mul, [.lst a, .int b] => if a.length * b.toNat ≤ line ∧ -1000000 ≤ b ∧ b ≤ 1000000 then some (.fr (List.replicate b.toNat a).flatten) else none
  | .fdiv, [.int a, .int b] => if divOk b then iD (a.fdiv b) else none
  | .mod, [.int a, .int b] => if b != 0 then iD (a.fmod b) else none
  | .pow, [.int a, .int b] => if 0 ≤ b ∧ b ≤ 1000000 ∧ a.natAbs < 2 ^ 64 then iD (a ^ b.toNat) else none
  | .shl, [.int a, .int b] => if 0 ≤ b ∧ b ≤ 1000000 ∧ a.natAbs < 2 ^ 64 then iD (a * 2 ^ b.toNat) else none
  | .neg, [.int a] => iD (-a)
  | .no, [.bl a] => bD (!a)
  | .eq, [.int a, .int b] => bD (a == b)
  | .eq, [.str a, .str b] => bD (a == b)
  | .eq, [a, b] => if sh 60 a && sh 60 b then bD (eqD a b) else none
  | .ne, [.int a, .int b] => bD (!(a == b))
  | .ne, [.str a, .str b] => bD (!(a == b))
  | .ne, [a, b] => if sh 60 a && sh 60 b then bD (!eqD a b) else none
  | .lt, [.int a, .int b] => bD (decide (a < b))
  | .lt, [.tup xs, .tup ys] => (intsD xs).bind fun ns => (intsD ys).bind fun ms => bD (lexI ns ms)
  | .le, [.int a, .int b] => bD (decide (a ≤ b))
  | .gt, [.int a, .int b] => bD (decide (b < a))
  | .ge, [.int a, .int b] => bD (decide (b ≤ a))
  | .isN, [a] => if isFn a then none else bD (match a with | .non => true | _ => false)
  | .notN, [a] => if isFn a then none else bD (match a with | .non => false | _ => true)
  | .isB, [.bl a, .bl b] => bD (a == b)
  | .notB, [.bl a, .bl b] => bD (!(a == b))
  | .isin, [x, .lst ys] => if sh 60 x && shs 59 ys then bD (ys.any fun y => eqD y x) else none
  | .isin, [x, .tup ys] => if sh 60 x && shs 59 ys then bD (ys.any fun y => eqD y x) else none
  | .notin, [x, .lst ys] => if sh 60 x && shs 59 ys then bD (!(ys.any fun y => eqD y x)) else none
  | .notin, [x, .tup ys] => if sh 60 x && shs 59 ys then bD (!(ys.any fun y => eqD y x)) else none
  | .ix, [.lst xs, .int i] => (atI xs i).map .d
  | .ix, [.tup xs, .int i] => (atI xs i).map .d
  | .ix, [.scr ns, .int i] => (atI (ns.map .int) i).map .d
  | .sl true true, [.lst xs, .int a, .int b] => some (.fr (cutD xs (some a) (some b)))
  | .sl true false, [.lst xs, .int a] => some (.fr (cutD xs (some a) none))
  | .sl false true, [.lst xs, .int b] => some (.fr (cutD xs none (some b)))
  | .sl false false, [.lst xs] => some (.fr (cutD xs none none))
  | .sl true true, [.scr xs, .int a, .int b] => some (.fr (cutD (xs.map .int) (some a) (some b)))
  | .sl true false, [.scr xs, .int a] => some (.fr (cutD (xs.map .int) (some a) none))
  | .sl false true, [.scr xs, .int b] => some (.fr (cutD (xs.map .int) none (some b)))
  | .sl true true, [.tup xs, .int a, .int b] => some (.d (.tup (cutD xs (some a) (some b))))
  | .sl true false, [.tup xs, .int a] => some (.d (.tup (cutD xs (some a) none)))
  | .sl false true, [.tup xs, .int b] => some (.d (.tup (cutD xs none (some b))))
  | .rev, [.lst xs] => some (.fr xs.reverse)
  | .rev, [.tup xs] => some (.d (.tup xs.reverse))
  | .len, [.lst xs] => iD xs.length
  | .len, [.tup xs] => iD xs.length
  | .len, [.scr xs] => iD xs.length
  | .len, [.str x] => if x.length ≤ line then iD x.length else none
  | .idI, [.int a] => iD a
  | .toInt, [.int a] => iD a
  | .toInt, [.bl a] => iD (if a then 1 else 0)
  | .abs, [.int a] => iD (if a < 0 then -a else a)
  | .max2, [.int a, .int b] => iD (if b > a then b else a)
  | .min2, [.int a, .int b] => iD (if b < a then b else a)
  | .all, [.lst xs] => (boolsD xs).bind fun bs => bD (bs.all id)
  | .any, [.lst xs] => (boolsD xs).bind fun bs => bD (bs.any id)
  | .sum, [.lst xs] => (intsD xs).bind fun ns => iD ns.sum
  | .sum, [.tup xs] => (intsD xs).bind fun ns => iD ns.sum
  | .maxL, [.lst xs] => (intsD xs).bind fun ns => match ns with
    | [] => none
    | n :: r => iD (r.foldl (fun a b => if b > a then b else a) n)
  | .minL, [.lst xs] => (intsD xs).bind fun ns => match ns with
    | [] => none
    | n :: r => iD (r.foldl (fun a b => if b < a then b else a) n)
  | .maxL, [.tup xs] => (intsD xs).bind fun ns => match ns with
    | [] => none
    | n :: r => iD (r.foldl (fun a b => if b > a then b else a) n)
  | .minL, [.tup xs] => (intsD xs).bind fun ns => match ns with
    | [] => none
    | n :: r => iD (r.foldl (fun a b => if b < a then b else a) n)
  | .tuple, [.lst xs] => some (.d (.tup xs))
  | .tuple, [.tup xs] => some (.d (.tup xs))
  | .list, [.lst xs] => some (.fr xs)
  | .list, [.tup xs] => some (.fr xs)
  | .repr, [x] => if sh 60 x && wee x && Nat.ble (wt x) 16000000 then some (.d (.str (toPy x).shown)) else none
  | .sorted, [.lst xs] => (intsD xs).bind fun ns => if ns.length < 64 then some (.fr ((sortI ns).map .int)) else none
  | .gcd, [.int a, .int b] => iD ((Nat.gcd a.natAbs b.natAbs : Nat) : Int)
  | .divmod, [.int a, .int b] => if 0 < b ∧ b < 1073741824 then some (.d (.tup [.int (a / b), .int (a % b)])) else none
  | .isi ts, [a] => if isFn a then none else bD (ts.any (isTy a))
  | _, _ => none
def enumD (k : Int) (xs : List D) : List D := xs.zipIdx.map fun p => .tup [.int (k + (p.2 : Nat)), p.1]
/-- the items that are walked -/
def wkL : Wk → List D → Option (List D)
  | .seq, [x] => items x
  | .range, [.int a] => if -(2 ^ 62) ≤ a ∧ a < 2 ^ 62 then some (rangeD 0 a.toNat) else none
  | .range, [.int a, .int b] => if -(2 ^ 62) ≤ a ∧ a < 2 ^ 62 ∧ -(2 ^ 62) ≤ b ∧ b < 2 ^ 62 then some (rangeD a (b - a).toNat) else none
  | .enum, [x] => (items x).bind fun xs => some (enumD 0 xs)
  | .enum, [x, .int k] => if -(2 ^ 62) ≤ k ∧ k < 2 ^ 62 then (items x).bind fun xs => some (enumD k xs) else none
  | .zip, [x, y] => (items x).bind fun xs => (items y).bind fun ys => some (List.zipWith (fun x y => .tup [x, y]) xs ys)
  | _, _ => none

/-! ### slots -/
def frz : Ag → En → Option (D × En)
  | .v (.d x), env => some (x, env)
  | .v (.fr xs), env => some (.lst xs, env)
  | .r i, env => match env[i]? with
    | some (.own xs 0) => some (.lst xs, env.set i (.d (.lst xs)))
    | some (.d x) => some (x, env)
    | _ => none
def frzs : List Ag → En → Option (List D × En)
  | [], env => some ([], env)
  | a :: as, env => (frz a env).bind fun p => (frzs as p.2).bind fun q => some (p.1 :: q.1, q.2)
def rdA (env : En) : Ag → Option D
  | .v (.d x) => some x
  | .v (.fr xs) => some (.lst xs)
  | .r i => match env[i]? with
    | some (.own xs _) => some (.lst xs)
    | some (.d x) => some x
    | _ => none
def rdAs (env : En) : List Ag → Option (List D)
  | [] => some []
  | a :: as => (rdA env a).bind fun x => (rdAs env as).bind fun xs => some (x :: xs)
/-- an operand that is kept: a slot's own list is no longer its own -/
def keepA : Ag → En → Option (T × En)
  | .v t, env => some (t, env)
  | .r i, env => (frz (.r i) env).bind fun p => some (.d p.1, p.2)
def keepAs : List Ag → En → Option (List T × En)
  | [], env => some ([], env)
  | a :: as, env => (keepA a env).bind fun p => (keepAs as p.2).bind fun q => some (p.1 :: q.1, q.2)
def slT : T → Sl
  | .d x => .d x
  | .fr xs => .own xs 0
/-- a name is stored -/
def putN (i : Nat) (t : T) (env : En) : Option En := match env[i]? with
  | some (.own _ (_ + 1)) => none
  | some _ => some (env.set i (slT t))
  | none => none
def asD : T → D
  | .d x => x
  | .fr xs => .lst xs
mutual
def bindN : Tn → D → En → Option En
  | .nm i, x, env => putN i (.d x) env
  | .tp ts, .tup xs, env => bindNs ts xs env
  | .tp ts, .lst xs, env => bindNs ts xs env
  | _, _, _ => none
def bindNs : List Tn → List D → En → Option En
  | [], [], env => some env
  | t :: ts, x :: xs, env => (bindN t x env).bind fun env => bindNs ts xs env
  | _, _, _ => none
end
/-- a place of a slot's own list is written -/
def setAt (i : Nat) (k : D) (x : D) (env : En) : Option En := match env[i]?, k with
  | some (.own xs m), .int j => if m ≤ 1 then (ixN xs.length j).bind fun n => some (env.set i (.own (xs.set n x) m)) else none
  | _, _ => none
/-- how arguments come to parameters: those that are not lent are kept as data -/
def frzR : List Bool → List Ag → En → Option (List Ag × En)
  | _, [], env => some ([], env)
  | [], a :: as, env => (frz a env).bind fun p => (frzR [] as p.2).bind fun q => some (.v (.d p.1) :: q.1, q.2)
  | true :: rf, a :: as, env => (frzR rf as env).bind fun q => some (a :: q.1, q.2)
  | false :: rf, a :: as, env => (frz a env).bind fun p => (frzR rf as p.2).bind fun q => some (.v (.d p.1) :: q.1, q.2)
def slA (env : En) : Ag → Option Sl
  | .v (.d x) => some (.d x)
  | .v (.fr xs) => some (.own xs 0)
  | .r i => match env[i]? with
    | some (.own xs m) => some (.own xs (if m ≤ 1 then 1 else 3))
    | some (.d x) => some (.d x)
    | _ => none
def slAs (env : En) : List Ag → Option (List Sl)
  | [] => some []
  | a :: as => (slA env a).bind fun x => (slAs env as).bind fun xs => some (x :: xs)
def refs : List Ag → List Nat
  | [] => []
  | .r i :: as => i :: refs as
  | .v _ :: as => refs as
/-- behind a call: what was lent comes back -/
def postA : List Ag → List Sl → En → Option En
  | [], _, env => some env
  | .v _ :: as, _ :: ss, env => postA as ss env
  | .r i :: as, s :: ss, env => match env[i]?, s with
    | some (.own _ m), .own ys (_ + 1) => postA as ss (env.set i (.own ys m))
    | some (.d _), _ => postA as ss env
    | _, _ => none
  | _, _, _ => none
def wipeE (env : En) : List Nat → En
  | [] => env
  | v :: vs => (wipeE env vs).set v .un
/-- the slots at vs as they stand in old -/
def backE (old env : En) : List Nat → En
  | [] => env
  | v :: vs => match old[v]? with
    | some s => (backE old env vs).set v s
    | none => backE old env vs
def lockA : List Ag → En → En
  | [], env => env
  | .r i :: as, env => match env[i]? with
    | some (.own xs m) => lockA as (env.set i (.own xs (m + 2)))
    | _ => lockA as env
  | _ :: as, env => lockA as env
def unlockA : List Ag → En → En
  | [], env => env
  | .r i :: as, env => match env[i]? with
    | some (.own xs m) => unlockA as (env.set i (.own xs (m - 2)))
    | _ => unlockA as env
  | _ :: as, env => unlockA as env
def mutF (m : Mt) (xs : List D) (vs : List D) : Option (D × List D) := match m, vs with
  | .append, [x] => if xs.length < line then some (.non, xs ++ [x]) else none
  | .extend, [.lst ys] => if xs.length + ys.length ≤ line then some (.non, xs ++ ys) else none
  | .insert, [.int i, x] => if xs.length < line ∧ 0 ≤ i ∧ i < 2 ^ 63 then some (.non, xs.take i.toNat ++ [x] ++ xs.drop i.toNat) else none
  | .pop, [] => (xs[xs.length - 1]?).bind fun y => some (y, xs.dropLast)
  | .reverse, [] => some (.non, xs.reverse)
  | _, _ => none
def metF (m : Me) (xs : List D) (vs : List D) : Option D := match m, vs with
  | .index, [x] => if sh 60 x && shs 59 xs then (idxOf x xs 0).bind fun k => some (.int (k : Nat)) else none
  | .count, [.int i] => (intsD xs).bind fun ns => some (.int (ns.count i : Nat))
  | _, _ => none
def isOwn (env : En) (i : Nat) : Bool := match env[i]? with
  | some (.own _ _) => true
  | _ => false
def isLs (env : En) (i : Nat) : Bool := match env[i]? with
  | some (.own _ _) => true
  | some (.d (.lst _)) => true
  | _ => false
/-- whether the operands of a change are kept in the list -/
def mutKeeps : Mt → Bool
  | .append => true
  | .insert => true
  | _ => false

/-! ### the evaluator -/
/-- the arguments in the parameters' order -/
def pick {α : Type} (pm : List Nat) (l : List α) : List α := pm.filterMap fun i => l[i]?
abbrev Sem0 := Nat → List Sl → Option (T × List Sl)
/-- a comprehension's turns -/
def compL (step : D → En → Option (Option D × En)) : List D → En → Option (List D × En)
  | [], env => some ([], env)
  | x :: xs, env => (step x env).bind fun p => (compL step xs p.2).bind fun q => match p.1 with
    | some y => some (y :: q.1, q.2)
    | none => some (q.1, q.2)
def boolA (env : En) (a : Ag) : Option Bool := match a with
  | .v (.d (.bl b)) => some b
  | .r i => match env[i]? with
    | some (.d (.bl b)) => some b
    | _ => none
  | _ => none
section
variable (C : Sem0)
mutual
def evA : E → En → Option (Ag × En)
  | .var i, env => match env[i]? with
    | some (.d x) => some (.v (.d x), env)
    | some (.own _ _) => some (.r i, env)
    | _ => none
  | .lit x, env => some (.v (.d x), env)
  | .op o es, env => (evAs es env).bind fun p => (rdAs p.2 p.1).bind fun ds => (opF o ds).bind fun t => some (.v t, p.2)
  | .tup es, env => (evAs es env).bind fun p => (frzs p.1 p.2).bind fun q => if q.1.length ≤ line then some (.v (.d (.tup q.1)), q.2) else none
  | .lst es, env => (evAs es env).bind fun p => (frzs p.1 p.2).bind fun q => if q.1.length ≤ line then some (.v (.fr q.1), q.2) else none
  | .and a b, env => (evA a env).bind fun p => (boolA p.2 p.1).bind fun k => if k = true then (evA b p.2).bind fun q => (boolA q.2 q.1).bind fun k' => some (.v (.d (.bl k')), q.2) else some (.v (.d (.bl false)), p.2)
  | .or a b, env => (evA a env).bind fun p => (boolA p.2 p.1).bind fun k => if k = true then some (.v (.d (.bl true)), p.2) else (evA b p.2).bind fun q => (boolA q.2 q.1).bind fun k' => some (.v (.d (.bl k')), q.2)
  | .ite c a b, env => (evA c env).bind fun p => (boolA p.2 p.1).bind fun k => if k = true then evA a p.2 else evA b p.2
  | .chain o o' a b c, env => (evA a env).bind fun p => (evA b p.2).bind fun q => (rdAs q.2 [p.1, q.1]).bind fun ds => (opF o ds).bind fun t => match t with
    | .d (.bl true) => (evA c q.2).bind fun r => (rdAs r.2 [q.1, r.1]).bind fun ds' => (opF o' ds').bind fun t' => some (.v t', r.2)
    | .d (.bl false) => some (.v (.d (.bl false)), q.2)
    | _ => none
  | .call f rf pm es, env => (evAs es env).bind fun p => (frzR rf (pick pm p.1) p.2).bind fun q => if (refs q.1).Nodup then (slAs q.2 q.1).bind fun args => (C f args).bind fun r => (postA q.1 r.2 q.2).bind fun env' => some (.v r.1, env') else none
  | .comp elt tg k es cond own, env => (evAs es env).bind fun p => (rdAs p.2 p.1).bind fun ds => (wkL k ds).bind fun its => if its.length ≤ line ∧ (∀ i ∈ refs p.1, i ∉ own) then
      (compL (fun x en => (bindN tg x (wipeE en own)).bind fun en => (evCond cond en).bind fun c => if c.1 = true then (evA elt c.2).bind fun q => (frz q.1 q.2).bind fun r => some (some r.1, r.2) else some (none, c.2)) its (lockA p.1 p.2)).bind fun q =>
        some (.v (.fr q.1), unlockA p.1 (backE (lockA p.1 p.2) q.2 own)) else none
  | .mut m i es, env => if isOwn env i = true then (evAs es env).bind fun p => (if mutKeeps m then frzs p.1 p.2 else (rdAs p.2 p.1).bind fun ds => some (ds, p.2)).bind fun q => match q.2[i]? with
    | some (.own xs n) => if n ≤ 1 then (mutF m xs q.1).bind fun z => some (.v (.d z.1), q.2.set i (.own z.2 n)) else none
    | _ => none else none
  | .met m i es, env => if isLs env i = true then (evAs es env).bind fun p => (rdA p.2 (.r i)).bind fun x => (rdAs p.2 p.1).bind fun ds => match x with
    | .lst xs => (metF m xs ds).bind fun z => some (.v (.d z), p.2)
    | _ => none else none
def evAs : List E → En → Option (List Ag × En)
  | [], env => some ([], env)
  | e :: es, env => (evA e env).bind fun p => (evAs es p.2).bind fun q => some (p.1 :: q.1, q.2)
def evCond : List E → En → Option (Bool × En)
  | [], env => some (true, env)
  | [c], env => (evA c env).bind fun p => (boolA p.2 p.1).bind fun k => some (k, p.2)
  | _, _ => none
end
end

/-! ### statements -/
inductive Fl where
  | nx (env : En) | rt (t : T) (env : En) | bk (env : En) | ct (env : En)
def retT : Ag → En → Option T
  | .v t, _ => some t
  | .r i, env => match env[i]? with
    | some (.own xs 0) => some (.fr xs)
    | some (.d x) => some (.d x)
    | _ => none
def putG (C : Sem0) : Tg → T → En → Option En
  | .n (.nm i), t, env => putN i t env
  | .n (.tp ts), t, env => match t with
    | .d x => bindN (.tp ts) x env
    | .fr _ => none
  | .sb i k, t, env => if isOwn env i = true then (evA C k env).bind fun p => (rdA p.2 p.1).bind fun kd => setAt i kd (asD t) p.2 else none
def putGs (C : Sem0) : List Tg → List T → En → Option En
  | [], [], env => some env
  | g :: gs, t :: ts, env => (putG C g t env).bind fun env => putGs C gs ts env
  | _, _, _ => none
/-- x op= y -/
def augI (o : Op) (a b : Int) : Option Int := match o with
  | .add => some (a + b)
  | .sub => some (a - b)
  | .fdiv => if divOk b then some (a.fdiv b) else none
  | _ => none
def augF (o : Op) (i : Nat) (y : D) (env : En) : Option En := match env[i]?, y with
  | some (.d (.int a)), .int b => (augI o a b).bind fun z => putN i (.d (.int z)) env
  | some (.own xs m), .lst ys => if o = .add ∧ m ≤ 1 ∧ xs.length + ys.length ≤ line then some (env.set i (.own (xs ++ ys) m)) else none
  | _, _ => none
def isSet (env : En) (i : Nat) : Bool := match env[i]? with
  | some (.own _ _) => true
  | some (.d _) => true
  | _ => false
/-- a while's turns -/
def whlN (cond : En → Option (Bool × En)) (body : En → Option Fl) : Nat → En → Option Fl
  | 0, _ => none
  | n + 1, env => (cond env).bind fun p => if p.1 = true then (body p.2).bind fun f => match f with
    | .nx env => whlN cond body n env
    | .ct env => whlN cond body n env
    | .bk env => some (.nx env)
    | .rt t env => some (.rt t env) else some (.nx p.2)
/-- a for's turns -/
def forL (body : D → En → Option Fl) : List D → En → Option Fl
  | [], env => some (.nx env)
  | x :: xs, env => (body x env).bind fun f => match f with
    | .nx env => forL body xs env
    | .ct env => forL body xs env
    | .bk env => some (.nx env)
    | .rt t env => some (.rt t env)
/-- every own list as data: for a test that keeps none of them -/
def frzSl : Sl → Sl
  | .own xs _ => .d (.lst xs)
  | s => s
def frzE (env : En) : En := env.map frzSl
section
variable (C : Sem0) (fuel : Nat)
mutual
def exS : S → En → Option Fl
  | .asg (.nm i) e, env => (evA C e env).bind fun p => (keepA p.1 p.2).bind fun q => (putN i q.1 q.2).map .nx
  | .asg (.tp ts) e, env => (evA C e env).bind fun p => (frz p.1 p.2).bind fun q => (bindN (.tp ts) q.1 q.2).map .nx
  | .set i k e, env => (evA C e env).bind fun p => (frz p.1 p.2).bind fun q => (putG C (.sb i k) (.d q.1) q.2).map .nx
  | .unp ts e, env => (evA C e env).bind fun p => (frz p.1 p.2).bind fun q => match q.1 with
    | .tup xs => (putGs C ts (xs.map .d) q.2).map .nx
    | _ => none
  | .par ts es, env => (evAs C es env).bind fun p => (keepAs p.1 p.2).bind fun q => (putGs C ts q.1 q.2).map .nx
  | .aug i o e, env => if isSet env i = true then (evA C e env).bind fun p => (rdA p.2 p.1).bind fun y => (augF o i y p.2).map .nx else none
  | .augS i k o e, env => (evA C k env).bind fun p => (rdA p.2 p.1).bind fun kd => match p.2[i]?, kd with
    | some (.own xs _), .int j => (atI xs j).bind fun x => (evA C e p.2).bind fun q => (rdA q.2 q.1).bind fun y => (opF o [x, y]).bind fun t => match t with
      | .d z => (setAt i kd z q.2).map .nx
      | _ => none
    | _, _ => none
  | .ifs c a b, env => (evA C c env).bind fun p => (boolA p.2 p.1).bind fun k => if k = true then exB a p.2 else exB b p.2
  | .ifl c a b, env => (evA C c (frzE env)).bind fun p => (boolA p.2 p.1).bind fun k => if k = true then exB a env else exB b env
  | .whl c body, env => whlN (fun env => (evA C c env).bind fun p => (boolA p.2 p.1).bind fun k => some (k, p.2)) (fun env => exB body env) fuel env
  | .for tg k es body, env => (evAs C es env).bind fun p => (rdAs p.2 p.1).bind fun ds => (wkL k ds).bind fun its => (forL (fun x env => (bindN tg x env).bind fun env => exB body env) its (lockA p.1 p.2)).bind fun f => match f with
    | .nx env => some (.nx (unlockA p.1 env))
    | .rt t env => some (.rt t (unlockA p.1 env))
    | _ => none
  | .ret e, env => (evA C e env).bind fun p => (retT p.1 p.2).bind fun t => some (.rt t p.2)
  | .retN, env => some (.rt (.d .non) env)
  | .expr e, env => (evA C e env).bind fun p => some (.nx p.2)
  | .brk, env => some (.bk env)
  | .cont, env => some (.ct env)
  | .pass, env => some (.nx env)
  | .never, _ => none
def exB : List S → En → Option Fl
  | [], env => some (.nx env)
  | s :: ss, env => (exS s env).bind fun f => match f with
    | .nx env => exB ss env
    | f => some f
end
end
/-! ### defs -/
structure Fi where
  np : Nat
  ns : Nat
  body : List S
def runF (C : Sem0) (fuel : Nat) (fi : Fi) (args : List Sl) : Option (T × List Sl) :=
  if args.length = fi.np then (exB C fuel fi.body (args ++ List.replicate (fi.ns - fi.np) .un)).bind fun f => match f with
    | .nx env => some (.d .non, env.take fi.np)
    | .rt t env => some (t, env.take fi.np)
    | _ => none
  else none
/-- more turns than any while of ours takes; never unfolded -/
def Fuel : Nat := 2 ^ 2000
def callAt (tb : List Fi) : Nat → Sem0
  | 0, _, _ => none
  | k + 1, f, args => (tb[f]?).bind fun fi => runF (callAt tb k) Fuel fi args
end Ev

/-! Ev, part B: how data, slots, steps lie in the abstract heap. -/
namespace Ev
open PySem L2

def Ex (H H' : Hp) : Prop := ∀ a o, H a = some o → H' a = some o
theorem Ex.refl (H : Hp) : Ex H H := fun _ _ h => h
theorem Ex.trans {H H1 H2 : Hp} (a : Ex H H1) (b : Ex H1 H2) : Ex H H2 := fun x o h => b x o (a x o h)
theorem Ex.new {H : Hp} {p : Addr} {o : HO} (h : H p = none) : Ex H (upd H p o) := fun a u e => by
  rw [upd_ne (ne_of_none e h)]; exact e

mutual
inductive Dv (K : PySem.W.Frag) (F : Hp) : V → D → Prop where
  | non : Dv K F .non .non
  | bl (b : Bool) : Dv K F (.bl b) (.bl b)
  | int (i : Int) : Dv K F (.int i) (.int i)
  | str (x : Str) : Dv K F (.str x) (.str x)
  | lst {a : Addr} {xs : List V} {ds : List D} : F a = some (.lst xs) → Dvs K F xs ds → Dv K F (.ref a) (.lst ds)
  | scr {a : Addr} {ns : List Int} : SqL K F a (ns.map V.int) → Dv K F (.ref a) (.scr ns)
  | tup {a : Addr} {xs : List V} {ds : List D} : SqT K F a xs → Dvs K F xs ds → Dv K F (.ref a) (.tup ds)
inductive Dvs (K : PySem.W.Frag) (F : Hp) : List V → List D → Prop where
  | nil : Dvs K F [] []
  | cons {v : V} {vs : List V} {d : D} {ds : List D} : Dv K F v d → Dvs K F vs ds → Dvs K F (v :: vs) (d :: ds)
end
section
variable {K : PySem.W.Frag} {F F' H H' : Hp}
theorem rd_ex {a : Addr} {u : HO} (e : Ex F F') (h : Rd F a u) : Rd F' a u := by
  rcases h with h | ⟨o, h⟩
  · exact .inl (e _ _ h)
  · exact .inr ⟨o, e _ _ h⟩
theorem sqL_ex {a : Addr} {xs : List V} (e : Ex F F') (h : SqL K F a xs) : SqL K F' a xs := h.imp (rd_ex e) id
theorem sqT_ex {a : Addr} {xs : List V} (e : Ex F F') (h : SqT K F a xs) : SqT K F' a xs := h.imp (rd_ex e) id
mutual
theorem Dv.mono (e : Ex F F') : ∀ (d : D) (v : V), Dv K F v d → Dv K F' v d
  | .non, _, .non => .non
  | .bl _, _, .bl b => .bl b
  | .int _, _, .int i => .int i
  | .str _, _, .str x => .str x
  | .lst ds, _, .lst h t => .lst (e _ _ h) (Dvs.mono e ds _ t)
  | .scr _, _, .scr h => .scr (sqL_ex e h)
  | .tup ds, _, .tup h t => .tup (sqT_ex e h) (Dvs.mono e ds _ t)
  | .fn _, _, h => nomatch h
theorem Dvs.mono (e : Ex F F') : ∀ (ds : List D) (vs : List V), Dvs K F vs ds → Dvs K F' vs ds
  | [], _, .nil => .nil
  | d :: ds, _, .cons h t => .cons (Dv.mono e d _ h) (Dvs.mono e ds _ t)
end
theorem Dv.ex {v : V} {d : D} (h : Dv K F v d) (e : Ex F F') : Dv K F' v d := Dv.mono e d v h
theorem Dvs.ex {v : List V} {d : List D} (h : Dvs K F v d) (e : Ex F F') : Dvs K F' v d := Dvs.mono e d v h
theorem Dvs.len : ∀ {vs : List V} {ds : List D}, Dvs K F vs ds → vs.length = ds.length
  | _, _, .nil => rfl
  | _, _, .cons _ t => by simp [Dvs.len t]
theorem Dvs.app : ∀ {vs ws : List V} {ds es : List D}, Dvs K F vs ds → Dvs K F ws es → Dvs K F (vs ++ ws) (ds ++ es)
  | _, _, _, _, .nil, t => t
  | _, _, _, _, .cons h r, t => .cons h (Dvs.app r t)
theorem Dvs.take : ∀ {vs : List V} {ds : List D} (n : Nat), Dvs K F vs ds → Dvs K F (vs.take n) (ds.take n)
  | _, _, 0, _ => .nil
  | _, _, _ + 1, .nil => .nil
  | _, _, n + 1, .cons h t => .cons h (Dvs.take n t)
theorem Dvs.drop : ∀ {vs : List V} {ds : List D} (n : Nat), Dvs K F vs ds → Dvs K F (vs.drop n) (ds.drop n)
  | _, _, 0, h => h
  | _, _, _ + 1, .nil => .nil
  | _, _, n + 1, .cons _ t => Dvs.drop n t
theorem Dvs.set {v : V} {d : D} (r : Dv K F v d) : ∀ {vs : List V} {ds : List D} (n : Nat), Dvs K F vs ds → Dvs K F (vs.set n v) (ds.set n d)
  | _, _, _, .nil => .nil
  | _, _, 0, .cons _ t => .cons r t
  | _, _, n + 1, .cons h t => .cons h (Dvs.set r n t)
theorem Dvs.rev {vs : List V} {ds : List D} (h : Dvs K F vs ds) : Dvs K F vs.reverse ds.reverse := by
  induction vs generalizing ds with
  | nil => cases h; exact .nil
  | cons v vs ih =>
    cases h with
    | cons a b =>
      rw [List.reverse_cons, List.reverse_cons]
      exact (ih b).app (.cons a .nil)
theorem Dvs.get : ∀ {vs : List V} {ds : List D} {n : Nat} {d : D}, Dvs K F vs ds → ds[n]? = some d → ∃ v, vs[n]? = some v ∧ Dv K F v d
  | _, _, _, _, .nil, h => by simp at h
  | _, _, 0, _, .cons a _, h => by simp at h; subst h; exact ⟨_, rfl, a⟩
  | _, _, n + 1, _, .cons _ t, h => by
    obtain ⟨v, h1, h2⟩ := Dvs.get (n := n) t (by simpa using h)
    exact ⟨v, by simpa using h1, h2⟩
theorem Dvs.get' : ∀ {vs : List V} {ds : List D} {n : Nat} {v : V}, Dvs K F vs ds → vs[n]? = some v → ∃ d, ds[n]? = some d ∧ Dv K F v d
  | _, _, _, _, .nil, h => by simp at h
  | _, _, 0, _, .cons a _, h => by simp at h; subst h; exact ⟨_, rfl, a⟩
  | _, _, n + 1, _, .cons _ t, h => by
    obtain ⟨v, h1, h2⟩ := Dvs.get' (n := n) t (by simpa using h)
    exact ⟨v, by simpa using h1, h2⟩
theorem Dvs.rep {vs : List V} {ds : List D} (h : Dvs K F vs ds) : ∀ n, Dvs K F (List.replicate n vs).flatten (List.replicate n ds).flatten
  | 0 => .nil
  | n + 1 => by
    rw [List.replicate_succ, List.replicate_succ, List.flatten_cons, List.flatten_cons]
    exact h.app (h.rep n)
theorem Dvs.ints : ∀ {vs : List V} {ds : List D} {ns : List Int}, Dvs K F vs ds → intsD ds = some ns → vs = ns.map V.int ∧ ds = ns.map D.int
  | _, _, _, .nil, h => by cases h; exact ⟨rfl, rfl⟩
  | _, _, ns, .cons (d := d) (ds := ds) a t, h => by
    cases d with
    | int i =>
      cases a
      cases e : intsD ds with
      | none => simp [intsD, e] at h
      | some r =>
        simp [intsD, e] at h
        subst h
        obtain ⟨h1, h2⟩ := Dvs.ints t e
        exact ⟨by rw [h1]; rfl, by rw [h2]; rfl⟩
    | _ => simp [intsD] at h
theorem Dvs.ofInts : ∀ ns : List Int, Dvs K F (ns.map V.int) (ns.map D.int)
  | [] => .nil
  | n :: ns => .cons (.int n) (Dvs.ofInts ns)
theorem Dvs.bools : ∀ {vs : List V} {ds : List D} {ns : List Bool}, Dvs K F vs ds → boolsD ds = some ns → vs = ns.map V.bl
  | _, _, _, .nil, h => by cases h; rfl
  | _, _, ns, .cons (d := d) (ds := ds) a t, h => by
    cases d with
    | bl i =>
      cases a
      cases e : boolsD ds with
      | none => simp [boolsD, e] at h
      | some r =>
        simp [boolsD, e] at h
        subst h
        rw [Dvs.bools t e]; rfl
    | _ => simp [boolsD] at h
mutual
theorem Dv.py : ∀ (d : D) (v : V) (n : Nat), Dv K F v d → sh n d = true → Dp K F v (toPy d)
  | .non, _, _, .non, _ => .non
  | .bl _, _, _, .bl b, _ => .bl b
  | .int _, _, _, .int b, _ => .int b
  | .str _, _, _, .str b, _ => .str b
  | .scr _, _, _, _, h => by simp [sh] at h
  | .lst ds, _, 0, _, h => by simp [sh] at h
  | .tup ds, _, 0, _, h => by simp [sh] at h
  | .lst ds, _, n + 1, .lst s t, h => by
    rw [toPy]; exact .lst (.inl (.inl s)) (Dvs.py ds _ n t (by simpa [sh] using h))
  | .tup ds, _, n + 1, .tup s t, h => by
    rw [toPy]; exact .tup s (Dvs.py ds _ n t (by simpa [sh] using h))
  | .fn _, _, _, h, _ => nomatch h
theorem Dvs.py : ∀ (ds : List D) (vs : List V) (n : Nat), Dvs K F vs ds → shs n ds = true → DpAll K F vs (toPys ds)
  | [], _, _, .nil, _ => by rw [toPys]; exact .nil
  | d :: ds, _, n, .cons a t, h => by
    rw [shs, Bool.and_eq_true] at h
    rw [toPys]; exact .cons (Dv.py d _ n a h.1) (Dvs.py ds _ n t h.2)
end
/-- what reads as data: data, or a list that is tracked by itself -/
def Rv (K : PySem.W.Frag) (F H : Hp) (v : V) (d : D) : Prop := Dv K F v d ∨ ∃ p vs xs, v = .ref p ∧ d = .lst xs ∧ H p = some (.lst vs) ∧ Dvs K F vs xs
def Rvs (K : PySem.W.Frag) (F H : Hp) : List V → List D → Prop
  | [], [] => True
  | v :: vs, d :: ds => Rv K F H v d ∧ Rvs K F H vs ds
  | _, _ => False
theorem Rv.dv (e : Ex F H) {v : V} {d : D} (h : Rv K F H v d) : Dv K H v d := by
  rcases h with h | ⟨p, vs, xs, rfl, rfl, hp, hv⟩
  · exact h.ex e
  · exact .lst hp (hv.ex e)
theorem Rv.lst (e : Ex F H) {v : V} {xs : List D} (h : Rv K F H v (.lst xs)) : ∃ p vs, v = .ref p ∧ H p = some (.lst vs) ∧ Dvs K F vs xs := by
  rcases h with h | ⟨p, vs, xs', rfl, e', hp, hv⟩
  · cases h with
    | lst s t => exact ⟨_, _, rfl, e _ _ s, t⟩
  · cases e'
    exact ⟨p, vs, rfl, hp, hv⟩
theorem Rv.tup (e : Ex F H) {v : V} {xs : List D} (h : Rv K F H v (.tup xs)) : ∃ p vs, v = .ref p ∧ SqT K H p vs ∧ SqT K F p vs ∧ Dvs K F vs xs := by
  rcases h with h | ⟨p, vs, xs', _, e', _⟩
  · cases h with
    | tup s t => exact ⟨_, _, rfl, sqT_ex e s, s, t⟩
  · cases e'
theorem Rv.scr (e : Ex F H) {v : V} {ns : List Int} (h : Rv K F H v (.scr ns)) : ∃ p, v = .ref p ∧ SqL K H p (ns.map V.int) := by
  rcases h with h | ⟨p, vs, xs', _, e', _⟩
  · cases h with
    | scr s => exact ⟨_, rfl, sqL_ex e s⟩
  · cases e'
theorem Rv.fn {v : V} {i : Nat} (h : Rv K F H v (.fn i)) : False := by
  rcases h with h | ⟨p, vs, xs', _, e', _⟩
  · cases h
  · cases e'
theorem Rv.int {v : V} {i : Int} (h : Rv K F H v (.int i)) : v = .int i := by
  rcases h with h | ⟨p, vs, xs', _, e', _⟩
  · cases h; rfl
  · cases e'
theorem Rv.bl {v : V} {i : Bool} (h : Rv K F H v (.bl i)) : v = .bl i := by
  rcases h with h | ⟨p, vs, xs', _, e', _⟩
  · cases h; rfl
  · cases e'
theorem Rv.str {v : V} {i : Str} (h : Rv K F H v (.str i)) : v = .str i := by
  rcases h with h | ⟨p, vs, xs', _, e', _⟩
  · cases h; rfl
  · cases e'
theorem Rv.non {v : V} (h : Rv K F H v .non) : v = .non := by
  rcases h with h | ⟨p, vs, xs', _, e', _⟩
  · cases h; rfl
  · cases e'
theorem Rvs.one {v : List V} {d : D} (h : Rvs K F H v [d]) : ∃ x, v = [x] ∧ Rv K F H x d := by
  match v, h with
  | [x], h => exact ⟨x, rfl, h.1⟩
theorem Rvs.two {v : List V} {d e : D} (h : Rvs K F H v [d, e]) : ∃ x y, v = [x, y] ∧ Rv K F H x d ∧ Rv K F H y e := by
  match v, h with
  | [x, y], h => exact ⟨x, y, rfl, h.1, h.2.1⟩
theorem Rvs.three {v : List V} {d e f : D} (h : Rvs K F H v [d, e, f]) : ∃ x y z, v = [x, y, z] ∧ Rv K F H x d ∧ Rv K F H y e ∧ Rv K F H z f := by
  match v, h with
  | [x, y, z], h => exact ⟨x, y, z, rfl, h.1, h.2.1, h.2.2.1⟩
theorem Rvs.nil {v : List V} (h : Rvs K F H v []) : v = [] := by
  match v, h with
  | [], _ => rfl

/-! ### slots -/
/-- the addresses of own lists -/
def Ow (σ : St) (env : En) (a : Addr) : Prop := ∃ (i : Nat) (xs : List D) (m : Nat), env[i]? = some (.own xs m) ∧ σ[i]? = some (some (.ref a))
structure SR (K : PySem.W.Frag) (F H : Hp) (σ : St) (env : En) : Prop where
  fh : Ex F H
  len : σ.length = env.length
  dd : ∀ (i : Nat) (x : D), env[i]? = some (.d x) → ∃ v, σ[i]? = some (some v) ∧ Dv K F v x
  ow : ∀ (i : Nat) (xs : List D) (m : Nat), env[i]? = some (.own xs m) → ∃ p vs, σ[i]? = some (some (.ref p)) ∧ H p = some (.lst vs) ∧ F p = none ∧ Dvs K F vs xs
  inj : ∀ (i j : Nat) (xs : List D) (m : Nat) (ys : List D) (n : Nat) (p : Addr), env[i]? = some (.own xs m) → env[j]? = some (.own ys n) → σ[i]? = some (some (.ref p)) → σ[j]? = some (some (.ref p)) → i = j
theorem SR.owH {σ : St} {env : En} (s : SR K F H σ env) {a : Addr} (h : Ow σ env a) : (∃ vs, H a = some (.lst vs)) ∧ F a = none := by
  obtain ⟨i, xs, m, h1, h2⟩ := h
  obtain ⟨p, vs, h3, h4, h5, _⟩ := s.ow i xs m h1
  rw [h2] at h3; cases h3
  exact ⟨⟨vs, h4⟩, h5⟩
/-- objects are only made -/
structure Nw (F H F' H' : Hp) : Prop where
  f : Ex F F'
  h : Ex H H'
  fh : Ex F' H'
  nf : ∀ a, H a ≠ none → F a = none → F' a = none
theorem Nw.refl (e : Ex F H) : Nw F H F H := ⟨Ex.refl _, Ex.refl _, e, fun _ _ h => h⟩
/-- a new object that is not data yet -/
theorem Nw.new (e : Ex F H) {p : Addr} {o : HO} (h : H p = none) : Nw F H F (upd H p o) := ⟨Ex.refl _, Ex.new h, e.trans (Ex.new h), fun _ _ h => h⟩
/-- a new object that is data at once -/
theorem Nw.newF (e : Ex F H) {p : Addr} {o : HO} (h : H p = none) : Nw F H (upd F p o) (upd H p o) := by
  have hF : F p = none := by
    cases q : F p with
    | none => rfl
    | some u => rw [e _ _ q] at h; cases h
  refine ⟨Ex.new hF, Ex.new h, fun a u q => ?_, fun a h1 h2 => ?_⟩
  · by_cases ha : a = p
    · subst ha; rw [upd_same] at q ⊢; exact q
    · rw [upd_ne ha] at q ⊢; exact e _ _ q
  · have ha : a ≠ p := fun z => by subst z; exact h1 h
    rw [upd_ne ha]; exact h2
theorem Nw.trans {F1 H1 F2 H2 : Hp} (a : Nw F H F1 H1) (b : Nw F1 H1 F2 H2) : Nw F H F2 H2 :=
  ⟨a.f.trans b.f, a.h.trans b.h, b.fh, fun x h1 h2 => b.nf x (by
    cases q : H x with
    | none => exact absurd q h1
    | some o => rw [a.h _ _ q]; exact fun z => by cases z) (a.nf x h1 h2)⟩
/-- a value among made objects -/
def RT (K : PySem.W.Frag) (F H H0 : Hp) (v : V) : T → Prop
  | .d x => Dv K F v x
  | .fr xs => ∃ p vs, v = .ref p ∧ H p = some (.lst vs) ∧ F p = none ∧ Dvs K F vs xs ∧ H0 p = none
/-- an expression's step -/
structure Se (K : PySem.W.Frag) (σ : St) (F H : Hp) (env : En) (F' H' : Hp) (env' : En) : Prop where
  sr : SR K F' H' σ env'
  fe : Ex F F'
  keep : ∀ a o, H a = some o → ¬ Ow σ env a → H' a = some o
  newf : ∀ a, H a ≠ none → F a = none → ¬ Ow σ env a → F' a = none
  ow : ∀ a, Ow σ env' a → Ow σ env a
  dom : ∀ a, H a ≠ none → H' a ≠ none
variable {σ : St} {env env' env1 env2 : En} {F1 H1 F2 H2 H0 : Hp}
theorem Se.refl (s : SR K F H σ env) : Se K σ F H env F H env := ⟨s, Ex.refl _, fun _ _ h _ => h, fun _ _ h _ => h, fun _ h => h, fun _ h => h⟩
theorem Se.trans (a : Se K σ F H env F1 H1 env1) (b : Se K σ F1 H1 env1 F2 H2 env2) : Se K σ F H env F2 H2 env2 where
  sr := b.sr
  fe := a.fe.trans b.fe
  keep := fun x o h n => b.keep x o (a.keep x o h n) fun z => n (a.ow x z)
  newf := fun x h f n => b.newf x (a.dom x h) (a.newf x h f n) fun z => n (a.ow x z)
  ow := fun x z => a.ow x (b.ow x z)
  dom := fun x h => b.dom x (a.dom x h)
theorem SR.nw (s : SR K F H σ env) (n : Nw F H F' H') : SR K F' H' σ env where
  fh := n.fh
  len := s.len
  dd := fun i x e => let ⟨v, h1, h2⟩ := s.dd i x e; ⟨v, h1, h2.ex n.f⟩
  ow := fun i xs m e => let ⟨p, vs, h1, h2, h3, h4⟩ := s.ow i xs m e; ⟨p, vs, h1, n.h _ _ h2, n.nf p (by rw [h2]; exact fun z => by cases z) h3, h4.ex n.f⟩
  inj := s.inj
theorem Se.nw (s : SR K F H σ env) (n : Nw F H F' H') : Se K σ F H env F' H' env :=
  ⟨s.nw n, n.f, fun a o h _ => n.h a o h, fun a h f _ => n.nf a h f, fun _ h => h, fun a h z => by
    cases q : H a with
    | none => exact h q
    | some o => rw [n.h _ _ q] at z; cases z⟩
/-- an operand's value -/
def RA (K : PySem.W.Frag) (σ : St) (F H : Hp) (env : En) (H0 : Hp) (v : V) : Ag → Prop
  | .v (.d x) => Dv K F v x
  | .v (.fr xs) => ∃ p vs, v = .ref p ∧ H p = some (.lst vs) ∧ F p = none ∧ Dvs K F vs xs ∧ H0 p = none ∧ ¬ Ow σ env p
  | .r i => σ[i]? = some (some v)
theorem RA.of_RT (s : SR K F H σ env) (n : Nw F H F' H') {v : V} {t : T} (h : RT K F' H' H v t) (e0 : ∀ a, H0 a ≠ none → H a ≠ none) : RA K σ F' H' env H0 v (.v t) := by
  cases t with
  | d x => exact h
  | fr xs =>
    obtain ⟨p, vs, h1, h2, h3, h4, h5⟩ := h
    refine ⟨p, vs, h1, h2, h3, h4, ?_, fun z => ?_⟩
    · cases q : H0 p with
      | none => rfl
      | some o => exact absurd h5 (e0 p (by rw [q]; exact fun z => by cases z))
    · obtain ⟨⟨vs, q⟩, _⟩ := s.owH z
      rw [h5] at q; cases q
theorem RA.mono (s : Se K σ F H env F' H' env') {v : V} {a : Ag} (h : RA K σ F H env H0 v a) : RA K σ F' H' env' H0 v a := by
  match a, h with
  | .v (.d x), h => exact Dv.ex h s.fe
  | .v (.fr xs), ⟨p, vs, h1, h2, h3, h4, h5, h6⟩ => exact ⟨p, vs, h1, s.keep p _ h2 h6, s.newf p (by rw [h2]; exact fun z => by cases z) h3 h6, h4.ex s.fe, h5, fun z => h6 (s.ow p z)⟩
  | .r i, h => exact h
theorem RA.back (h01 : ∀ a, H0 a ≠ none → H1 a ≠ none) {v : V} {a : Ag} (h : RA K σ F H env H1 v a) : RA K σ F H env H0 v a := by
  match a, h with
  | .v (.d x), h => exact h
  | .v (.fr xs), ⟨p, vs, h1, h2, h3, h4, h5, h6⟩ =>
    refine ⟨p, vs, h1, h2, h3, h4, ?_, h6⟩
    cases q : H0 p with
    | none => rfl
    | some o => exact absurd h5 (h01 p (by rw [q]; exact fun z => by cases z))
  | .r i, h => exact h
/-- read without keeping -/
theorem RA.rd (s : SR K F H σ env) {v : V} {a : Ag} {x : D} (h : RA K σ F H env H0 v a) (e : rdA env a = some x) : Rv K F H v x := by
  match a, h with
  | .v (.d y), h => cases e; exact .inl h
  | .v (.fr xs), ⟨p, vs, h1, h2, h3, h4, h5, h6⟩ => cases e; exact .inr ⟨p, vs, xs, h1, rfl, h2, h4⟩
  | .r i, h =>
    cases q : env[i]? with
    | none => simp only [rdA, q] at e; cases e
    | some sl =>
      simp only [rdA, q] at e
      cases sl with
      | un => cases e
      | d y =>
        cases e
        obtain ⟨w, h1, h2⟩ := s.dd i _ q
        have : v = w := by
          have h' : σ[i]? = some (some v) := h
          rw [h'] at h1; cases h1; rfl
        subst this
        exact .inl h2
      | own xs m =>
        cases e
        obtain ⟨p, vs, h1, h2, h3, h4⟩ := s.ow i _ _ q
        have h' : σ[i]? = some (some v) := h
        rw [h'] at h1; cases h1
        exact .inr ⟨p, vs, xs, rfl, rfl, h2, h4⟩
/-- an operand list's values; lists just made stand apart -/
def frA : V → Ag → List Addr
  | .ref p, .v (.fr _) => [p]
  | _, _ => []
def frAs : List V → List Ag → List Addr
  | v :: vs, a :: as => frA v a ++ frAs vs as
  | _, _ => []
inductive RAs (K : PySem.W.Frag) (σ : St) (F H : Hp) (env : En) (H0 : Hp) : List V → List Ag → Prop where
  | nil : RAs K σ F H env H0 [] []
  | cons {v vs a as} : RA K σ F H env H0 v a → RAs K σ F H env H0 vs as → (∀ p ∈ frA v a, p ∉ frAs vs as) → RAs K σ F H env H0 (v :: vs) (a :: as)
theorem RAs.mono (s : Se K σ F H env F' H' env') {vs : List V} {as : List Ag} (h : RAs K σ F H env H0 vs as) : RAs K σ F' H' env' H0 vs as := by
  induction h with
  | nil => exact .nil
  | cons h t n ih => exact .cons (h.mono s) ih n
theorem RAs.back (h01 : ∀ a, H0 a ≠ none → H1 a ≠ none) {vs : List V} {as : List Ag} (h : RAs K σ F H env H1 vs as) : RAs K σ F H env H0 vs as := by
  induction h with
  | nil => exact .nil
  | cons h t n ih => exact .cons (h.back h01) ih n
theorem RAs.rd (s : SR K F H σ env) {vs : List V} {as : List Ag} {xs : List D} (h : RAs K σ F H env H0 vs as) (e : rdAs env as = some xs) : Rvs K F H vs xs := by
  induction h generalizing xs with
  | nil => cases e; exact True.intro
  | cons h t n ih =>
    unfold rdAs at e
    obtain ⟨x, e1, e⟩ := Option.bind_eq_some_iff.mp e
    obtain ⟨r, e2, e⟩ := Option.bind_eq_some_iff.mp e
    cases e
    exact ⟨h.rd s e1, ih e2⟩
theorem RAs.len {vs : List V} {as : List Ag} (h : RAs K σ F H env H0 vs as) : vs.length = as.length := by
  induction h with
  | nil => rfl
  | cons _ _ _ ih => simp [ih]
/-- the lists just made are new since H0 -/
theorem RAs.new {vs : List V} {as : List Ag} (h : RAs K σ F H env H0 vs as) : ∀ p ∈ frAs vs as, H0 p = none ∧ ¬ Ow σ env p ∧ H p ≠ none ∧ F p = none := by
  induction h with
  | nil => intro p hp; cases hp
  | @cons v vs a as h t n ih =>
    intro p hp
    unfold frAs at hp
    rcases List.mem_append.mp hp with hp | hp
    · match v, a, h, hp with
      | .ref q, .v (.fr xs), ⟨p', vs, h1, h2, h3, h4, h5, h6⟩, hp =>
        have e : p = q := by simpa [frA] using hp
        have e2 : q = p' := V.ref.inj h1
        subst e e2
        exact ⟨h5, h6, (by rw [h2]; exact fun z => (by cases z)), h3⟩
    · exact ih p hp
/-- one more operand ahead -/
theorem RAs.cons' {v : V} {a : Ag} {vs : List V} {as : List Ag} (h : RA K σ F1 H1 env1 H0 v a) (s : Se K σ F1 H1 env1 F H env) (t : RAs K σ F H env H1 vs as) (d0 : ∀ a, H0 a ≠ none → H1 a ≠ none) : RAs K σ F H env H0 (v :: vs) (a :: as) := by
  refine .cons (h.mono s) (t.back d0) fun p hp hq => ?_
  match v, a, h, hp with
  | .ref q, .v (.fr xs), ⟨p', vs, h1, h2, h3, h4, h5, h6⟩, hp =>
    have e : p = q := by simpa [frA] using hp
    have e2 : q = p' := V.ref.inj h1
    subst e e2
    have := (t.new p hq).1
    rw [h2] at this; cases this
end
end Ev

/-! Ev, part C: slots that are frozen, stored, lent, walked. -/
namespace Ev
open PySem L2
section
variable {K : PySem.W.Frag} {F F' H H' F0 H0 F1 H1 : Hp} {σ σ' σ0 : St} {env env' env0 env1 : En}
theorem set_get {α : Type} {l : List α} {i j : Nat} {a b : α} (h : (l.set i a)[j]? = some b) : (j = i ∧ b = a) ∨ (j ≠ i ∧ l[j]? = some b) := by
  by_cases e : i = j
  · subst e
    by_cases hl : i < l.length
    · rw [List.getElem?_set_self hl] at h; exact .inl ⟨rfl, (Option.some.inj h).symm⟩
    · rw [List.getElem?_eq_none (by simpa using hl)] at h; cases h
  · rw [List.getElem?_set_ne e] at h; exact .inr ⟨fun z => e z.symm, h⟩
/-- the object at p becomes data -/
theorem Se.freeze (s : Se K σ F0 H0 env0 F H env) {p : Addr} {vs : List V} (hp : H p = some (.lst vs)) (fp : F p = none) (h0 : H0 p = none ∨ Ow σ env0 p) (hl : env'.length = env.length)
    (ho : ∀ (j : Nat) (xs : List D) (m : Nat), env'[j]? = some (.own xs m) → env[j]? = some (.own xs m) ∧ σ[j]? ≠ some (some (.ref p)))
    (hd : ∀ (j : Nat) (x : D), env'[j]? = some (.d x) → env[j]? = some (.d x) ∨ (σ[j]? = some (some (.ref p)) ∧ Dv K (upd F p (.lst vs)) (.ref p) x)) : Se K σ F0 H0 env0 (upd F p (.lst vs)) H env' := by
  have eF : Ex F (upd F p (.lst vs)) := Ex.new fp
  have ow' : ∀ a, Ow σ env' a → Ow σ env a ∧ a ≠ p := fun a ⟨i, xs, m, h1, h2⟩ => ⟨⟨i, xs, m, (ho i xs m h1).1, h2⟩, fun z => by subst z; exact (ho i xs m h1).2 h2⟩
  refine ⟨⟨fun a o e => ?_, s.sr.len.trans hl.symm, fun i x e => ?_, fun i xs m e => ?_, fun i j xs m ys n q e1 e2 e3 e4 => ?_⟩, s.fe.trans eF, s.keep, fun a h1 h2 h3 => ?_, fun a h => s.ow a (ow' a h).1, s.dom⟩
  · by_cases ha : a = p
    · subst ha; rw [upd_same] at e; cases e; exact hp
    · rw [upd_ne ha] at e; exact s.sr.fh _ _ e
  · rcases hd i x e with h | ⟨h1, h2⟩
    · obtain ⟨v, h1, h2⟩ := s.sr.dd i x h
      exact ⟨v, h1, h2.ex eF⟩
    · exact ⟨_, h1, h2⟩
  · obtain ⟨e1, e2⟩ := ho i xs m e
    obtain ⟨q, ws, h1, h2, h3, h4⟩ := s.sr.ow i xs m e1
    refine ⟨q, ws, h1, h2, ?_, h4.ex eF⟩
    rw [upd_ne (fun z => by subst z; exact e2 h1)]; exact h3
  · exact s.sr.inj i j xs m ys n q (ho i xs m e1).1 (ho j ys n e2).1 e3 e4
  · have ha : a ≠ p := fun z => by
      subst z
      rcases h0 with h0 | h0
      · exact h1 h0
      · exact h3 h0
    rw [upd_ne ha]; exact s.newf a h1 h2 h3
theorem frz_ok (s : Se K σ F0 H0 env0 F H env) {v : V} {a : Ag} {x : D} (h : RA K σ F H env H0 v a) (e : frz a env = some (x, env')) :
    ∃ F', Se K σ F0 H0 env0 F' H env' ∧ Dv K F' v x ∧ Ex F F' ∧ (∀ q, q ∉ frA v a → ¬ Ow σ env q → F q = none → F' q = none) ∧ ∀ q, Ow σ env' q → Ow σ env q := by
  match a, h with
  | .v (.d y), h => cases e; exact ⟨F, s, h, Ex.refl _, fun _ _ _ h => h, fun _ h => h⟩
  | .v (.fr xs), ⟨p, vs, h1, h2, h3, h4, h5, h6⟩ =>
    cases e
    subst h1
    refine ⟨upd F p (.lst vs), s.freeze h2 h3 (.inl h5) rfl (fun j xs m e => ⟨e, fun z => h6 ⟨j, xs, m, e, z⟩⟩) (fun j x e => .inl e), .lst upd_same (h4.ex (Ex.new h3)), Ex.new h3, fun q hq _ hn => ?_, fun _ h => h⟩
    rw [upd_ne (fun z => hq (by simp [frA, z]))]; exact hn
  | .r i, h =>
    have h' : σ[i]? = some (some v) := h
    cases q : env[i]? with
    | none => simp only [frz, q] at e; cases e
    | some sl =>
      simp only [frz, q] at e
      cases sl with
      | un => cases e
      | d y =>
        cases e
        obtain ⟨w, h1, h2⟩ := s.sr.dd i _ q
        rw [h'] at h1; cases h1
        exact ⟨F, s, h2, Ex.refl _, fun _ _ _ h => h, fun _ h => h⟩
      | own xs m =>
        cases m with
        | succ m => cases e
        | zero =>
          cases e
          obtain ⟨p, vs, h1, h2, h3, h4⟩ := s.sr.ow i _ _ q
          rw [h'] at h1; cases h1
          have oi : Ow σ env p := ⟨i, xs, 0, q, h'⟩
          have dl : Dv K (upd F p (.lst vs)) (.ref p) (.lst xs) := .lst upd_same (h4.ex (Ex.new h3))
          have sub : ∀ (j : Nat) (ys : List D) (m : Nat), (env.set i (.d (.lst xs)))[j]? = some (.own ys m) → j ≠ i ∧ env[j]? = some (.own ys m) := fun j ys m e => by
            rcases set_get e with ⟨_, z⟩ | z
            · cases z
            · exact z
          refine ⟨upd F p (.lst vs), s.freeze h2 h3 (.inr (s.ow p oi)) (by simp) (fun j ys m e => ?_) (fun j x e => ?_), dl, Ex.new h3, fun q hq hw hn => ?_, fun a ⟨j, ys, m, e1, e2⟩ => ⟨j, ys, m, (sub j ys m e1).2, e2⟩⟩
          · obtain ⟨n1, e1⟩ := sub j ys m e
            exact ⟨e1, fun z => n1 (s.sr.inj j i _ _ _ _ p e1 q z h')⟩
          · rcases set_get e with ⟨rfl, z⟩ | ⟨_, z⟩
            · cases z; exact .inr ⟨h', dl⟩
            · exact .inl z
          · rw [upd_ne (fun z => by subst z; exact hw oi)]; exact hn
theorem RAs.frz (eF : Ex F F') {vs : List V} {as : List Ag} (h : RAs K σ F H env H0 vs as) (hq : ∀ q ∈ frAs vs as, F' q = none) (ho : ∀ q, Ow σ env' q → Ow σ env q) : RAs K σ F' H env' H0 vs as := by
  induction h with
  | nil => exact .nil
  | @cons v vs a as h t n ih =>
    refine .cons ?_ (ih fun q z => hq q (List.mem_append_right _ z)) n
    match a, h with
    | .v (.d x), h => exact Dv.ex h eF
    | .v (.fr xs), ⟨p, ws, h1, h2, h3, h4, h5, h6⟩ =>
      subst h1
      exact ⟨p, ws, rfl, h2, hq p (List.mem_append_left _ (by simp [frA])), h4.ex eF, h5, fun z => h6 (ho p z)⟩
    | .r i, h => exact h
theorem RAs.frz1 {F'' : Hp} {v : V} {a : Ag} (eF : Ex F F') {vs : List V} {as : List Ag} (h : RAs K σ F H env H0 (v :: vs) (a :: as)) (hq : ∀ q, q ∉ frA v a → ¬ Ow σ env q → F q = none → F' q = none) (ho : ∀ q, Ow σ env' q → Ow σ env q) : RAs K σ F' H env' H0 vs as := by
  cases h with
  | cons h t n => exact t.frz eF (fun q z => hq q (fun y => n q y z) (t.new q z).2.1 (t.new q z).2.2.2) ho
theorem frzs_ok {as : List Ag} : ∀ {vs : List V} {F : Hp} {env : En} {xs : List D}, Se K σ F0 H0 env0 F H env → RAs K σ F H env H0 vs as → frzs as env = some (xs, env') →
    ∃ F', Se K σ F0 H0 env0 F' H env' ∧ Dvs K F' vs xs ∧ Ex F F' := by
  induction as with
  | nil => intro vs F env xs s h e; cases h; cases e; exact ⟨F, s, .nil, Ex.refl _⟩
  | cons a as ih =>
    intro vs0 F env xs s h0 e
    cases h0 with
    | @cons v vs _ _ h t n =>
      unfold frzs at e
      obtain ⟨⟨x, env1⟩, e1, e⟩ := Option.bind_eq_some_iff.mp e
      obtain ⟨⟨r, env2⟩, e2, e⟩ := Option.bind_eq_some_iff.mp e
      cases e
      obtain ⟨F1, s1, d1, x1, q1, o1⟩ := frz_ok s h e1
      obtain ⟨F2, s2, d2, x2⟩ := ih s1 (RAs.frz1 (F'' := F) x1 (.cons h t n) q1 o1) e2
      exact ⟨F2, s2, .cons (d1.ex x2) d2, x1.trans x2⟩
theorem keepA_ok (s : Se K σ F0 H0 env0 F H env) {v : V} {a : Ag} {t : T} (h : RA K σ F H env H0 v a) (e : keepA a env = some (t, env')) :
    ∃ F', Se K σ F0 H0 env0 F' H env' ∧ RA K σ F' H env' H0 v (.v t) ∧ Ex F F' ∧ (∀ q, ¬ Ow σ env q → F q = none → F' q = none) ∧ (∀ q, Ow σ env' q → Ow σ env q) ∧ ∀ q ∈ frA v (.v t), q ∈ frA v a := by
  match a, h with
  | .v t', h => cases e; exact ⟨F, s, h, Ex.refl _, fun _ _ h => h, fun _ h => h, fun _ h => h⟩
  | .r i, h =>
    unfold keepA at e
    obtain ⟨⟨x, env1⟩, e1, e⟩ := Option.bind_eq_some_iff.mp e
    cases e
    obtain ⟨F1, s1, d1, x1, q1, o1⟩ := frz_ok s h e1
    exact ⟨F1, s1, d1, x1, fun q => q1 q (by cases v <;> simp [frA]), o1, fun q hq => by cases v <;> simp [frA] at hq⟩
theorem keepAs_ok {as : List Ag} : ∀ {vs : List V} {F : Hp} {env : En} {ts : List T}, Se K σ F0 H0 env0 F H env → RAs K σ F H env H0 vs as → keepAs as env = some (ts, env') →
    ∃ F', Se K σ F0 H0 env0 F' H env' ∧ RAs K σ F' H env' H0 vs (ts.map .v) ∧ Ex F F' ∧ (∀ q, ¬ Ow σ env q → F q = none → F' q = none) ∧ (∀ q, Ow σ env' q → Ow σ env q) ∧ ∀ q ∈ frAs vs (ts.map .v), q ∈ frAs vs as := by
  induction as with
  | nil => intro vs F env ts s h e; cases h; cases e; exact ⟨F, s, .nil, Ex.refl _, fun _ _ h => h, fun _ h => h, fun _ h => h⟩
  | cons a as ih =>
    intro vs0 F env ts s h0 e
    cases h0 with
    | @cons v vs _ _ h t n =>
      unfold keepAs at e
      obtain ⟨⟨x, env1⟩, e1, e⟩ := Option.bind_eq_some_iff.mp e
      obtain ⟨⟨r, env2⟩, e2, e⟩ := Option.bind_eq_some_iff.mp e
      cases e
      obtain ⟨F1, s1, d1, x1, q1, o1, m1⟩ := keepA_ok s h e1
      have t1 : RAs K σ F1 H env1 H0 vs as := t.frz x1 (fun q z => q1 q (t.new q z).2.1 (t.new q z).2.2.2) o1
      obtain ⟨F2, s2, d2, x2, q2, o2, m2⟩ := ih s1 t1 e2
      have h2 : RAs K σ F1 H env1 H0 [v] [.v x] := .cons d1 .nil (fun p _ h => by cases h)
      have h3 : RAs K σ F2 H env2 H0 [v] [.v x] := h2.frz x2 (fun q z => q2 q (h2.new q z).2.1 (h2.new q z).2.2.2) o2
      cases h3 with
      | cons h4 _ _ =>
        refine ⟨F2, s2, .cons h4 d2 (fun p hp hq => n p (m1 p hp) (m2 p hq)), x1.trans x2, fun q a b => q2 q (fun z => a (o1 q z)) (q1 q a b), fun q z => o1 q (o2 q z), fun q hq => ?_⟩
        rcases List.mem_append.mp hq with z | z
        · exact List.mem_append_left _ (m1 q z)
        · exact List.mem_append_right _ (m2 q z)

/-! ### a statement's step -/
structure Ss (K : PySem.W.Frag) (F H : Hp) (σ : St) (env : En) (F' H' : Hp) (σ' : St) (env' : En) : Prop where
  sr : SR K F' H' σ' env'
  fe : Ex F F'
  keep : ∀ a o, H a = some o → ¬ Ow σ env a → H' a = some o
  newf : ∀ a, H a ≠ none → F a = none → ¬ Ow σ env a → F' a = none
  ow : ∀ a, Ow σ' env' a → Ow σ env a ∨ H a = none
  dom : ∀ a, H a ≠ none → H' a ≠ none
theorem Se.ss (s : Se K σ F H env F' H' env') : Ss K F H σ env F' H' σ env' := ⟨s.sr, s.fe, s.keep, s.newf, fun a h => .inl (s.ow a h), s.dom⟩
theorem Ss.refl (s : SR K F H σ env) : Ss K F H σ env F H σ env := (Se.refl s).ss
theorem Ss.trans {F2 H2 : Hp} {σ1 σ2 : St} {env2 : En} (a : Ss K F H σ env F1 H1 σ1 env1) (b : Ss K F1 H1 σ1 env1 F2 H2 σ2 env2) : Ss K F H σ env F2 H2 σ2 env2 := by
  have n1 : ∀ x, H x ≠ none → ¬ Ow σ env x → ¬ Ow σ1 env1 x := fun x h n z => by
    rcases a.ow x z with q | q
    · exact n q
    · exact h q
  refine ⟨b.sr, a.fe.trans b.fe, fun x o h n => b.keep x o (a.keep x o h n) (n1 x (by rw [h]; exact fun z => by cases z) n), fun x h f n => b.newf x (a.dom x h) (a.newf x h f n) (n1 x h n), fun x z => ?_, fun x h => b.dom x (a.dom x h)⟩
  rcases b.ow x z with q | q
  · exact a.ow x q
  · refine .inr ?_
    cases r : H x with
    | none => rfl
    | some o => exact absurd q (a.dom x (by rw [r]; exact fun z => by cases z))
theorem putN_ok (s : Ss K F0 H0 σ0 env0 F H σ env) {i : Nat} {v : V} {t : T} (h : RA K σ F H env H0 v (.v t)) (e : putN i t env = some env') : Ss K F0 H0 σ0 env0 F H (σ.set i (some v)) env' := by
  have e' : env' = env.set i (slT t) ∧ i < env.length := by
    unfold putN at e
    cases q : env[i]? with
    | none => rw [q] at e; cases e
    | some sl =>
      have hi : i < env.length := (List.getElem?_eq_some_iff.mp q).1
      rw [q] at e
      cases sl with
      | un => cases e; exact ⟨rfl, hi⟩
      | d x => cases e; exact ⟨rfl, hi⟩
      | own xs m => cases m with
        | zero => cases e; exact ⟨rfl, hi⟩
        | succ m => cases e
  obtain ⟨rfl, hi⟩ := e'
  have hiσ : i < σ.length := by rw [s.sr.len]; exact hi
  have get : ∀ (j : Nat), j ≠ i → (σ.set i (some v))[j]? = σ[j]? := fun j n => List.getElem?_set_ne (Ne.symm n)
  have geti : (σ.set i (some v))[i]? = some (some v) := List.getElem?_set_self hiσ
  have fr : ∀ {xs : List D} {m : Nat}, slT t = .own xs m → ∃ p vs, v = .ref p ∧ H p = some (.lst vs) ∧ F p = none ∧ Dvs K F vs xs ∧ H0 p = none ∧ ¬ Ow σ env p := fun {xs m} e => by
    cases t with
    | d x => cases e
    | fr ys => cases e; exact h
  refine ⟨⟨s.sr.fh, by simp [s.sr.len], fun j x e => ?_, fun j xs m e => ?_, fun j k xs m ys n p e1 e2 e3 e4 => ?_⟩, s.fe, s.keep, s.newf, fun a ⟨j, xs, m, e1, e2⟩ => ?_, s.dom⟩
  · rcases set_get e with ⟨rfl, z⟩ | ⟨n, z⟩
    · cases t with
      | d y => cases z; exact ⟨v, geti, h⟩
      | fr ys => cases z
    · rw [get j n]; exact s.sr.dd j x z
  · rcases set_get e with ⟨rfl, z⟩ | ⟨n, z⟩
    · obtain ⟨p, vs, h1, h2, h3, h4, _⟩ := fr z.symm
      exact ⟨p, vs, by rw [geti, h1], h2, h3, h4⟩
    · rw [get j n]; exact s.sr.ow j xs m z
  · rcases set_get e1 with ⟨rfl, z1⟩ | ⟨n1, z1⟩
    · rcases set_get e2 with ⟨rfl, z2⟩ | ⟨n2, z2⟩
      · rfl
      · obtain ⟨p', vs, h1, _, _, _, _, h6⟩ := fr z1.symm
        rw [geti, h1] at e3; cases e3
        rw [get k n2] at e4
        exact absurd ⟨k, ys, n, z2, e4⟩ h6
    · rcases set_get e2 with ⟨rfl, z2⟩ | ⟨n2, z2⟩
      · obtain ⟨p', vs, h1, _, _, _, _, h6⟩ := fr z2.symm
        rw [geti, h1] at e4; cases e4
        rw [get j n1] at e3
        exact absurd ⟨j, xs, m, z1, e3⟩ h6
      · rw [get j n1] at e3
        rw [get k n2] at e4
        exact s.sr.inj j k xs m ys n p z1 z2 e3 e4
  · rcases set_get e1 with ⟨rfl, z⟩ | ⟨n, z⟩
    · obtain ⟨p, vs, h1, _, _, _, h5, _⟩ := fr z.symm
      rw [geti, h1] at e2; cases e2
      exact .inr h5
    · rw [get j n] at e2
      exact s.ow a ⟨j, xs, m, z, e2⟩
/-- a place of an own list is written -/
theorem Ss.setOwn (s : Ss K F0 H0 σ0 env0 F H σ env) {i : Nat} {xs ys : List D} {m n : Nat} {p : Addr} {vs ws : List V} (e : env[i]? = some (.own xs m)) (hs : σ[i]? = some (some (.ref p))) (hp : H p = some (.lst vs)) (hw : Dvs K F ws ys) :
    Ss K F0 H0 σ0 env0 F (upd H p (.lst ws)) σ (env.set i (.own ys n)) := by
  have hi : i < env.length := (List.getElem?_eq_some_iff.mp e).1
  obtain ⟨p', vs', h1, h2, h3, h4⟩ := s.sr.ow i _ _ e
  rw [hs] at h1; cases h1
  have o1 : Ow σ env p := ⟨i, xs, m, e, hs⟩
  have sub : ∀ (j : Nat) (zs : List D) (k : Nat), (env.set i (.own ys n))[j]? = some (.own zs k) → ∃ zs' k', env[j]? = some (.own zs' k') ∧ (j = i → zs = ys) ∧ (j ≠ i → zs = zs') := fun j zs k e' => by
    rcases set_get e' with ⟨rfl, z⟩ | ⟨nj, z⟩
    · cases z; exact ⟨xs, m, e, fun _ => rfl, fun z => absurd rfl z⟩
    · exact ⟨zs, k, z, fun q => absurd q nj, fun _ => rfl⟩
  have np : ∀ a o, F a = some o → a ≠ p := fun a o q z => by subst z; rw [h3] at q; cases q
  have ow' : ∀ a, Ow σ (env.set i (.own ys n)) a → Ow σ env a := fun a ⟨j, zs, k, e1, e2⟩ => by
    obtain ⟨zs', k', h, _⟩ := sub j zs k e1
    exact ⟨j, zs', k', h, e2⟩
  refine ⟨⟨fun a o q => ?_, by simp [s.sr.len], fun j x e' => ?_, fun j zs k e' => ?_, fun j k xs1 m1 ys1 n1 q e1 e2 e3 e4 => ?_⟩, s.fe, fun a o h n => ?_, fun a h f n => ?_, fun a h => s.ow a (ow' a h), fun a h => ?_⟩
  · rw [upd_ne (np a o q)]; exact s.sr.fh a o q
  · rcases set_get e' with ⟨_, z⟩ | ⟨nj, z⟩
    · cases z
    · exact s.sr.dd j x z
  · obtain ⟨zs', k', h, z1, z2⟩ := sub j zs k e'
    by_cases hj : j = i
    · subst hj
      exact ⟨p, ws, hs, upd_same, h3, by rw [z1 rfl]; exact hw⟩
    · obtain ⟨q, us, g1, g2, g3, g4⟩ := s.sr.ow j _ _ h
      have hq : q ≠ p := fun z => by subst z; exact hj (s.sr.inj j i _ _ _ _ q h e g1 hs)
      exact ⟨q, us, g1, by rw [upd_ne hq]; exact g2, g3, by rw [z2 hj]; exact g4⟩
  · obtain ⟨_, _, h1, _⟩ := sub j _ _ e1
    obtain ⟨_, _, h2, _⟩ := sub k _ _ e2
    exact s.sr.inj j k _ _ _ _ q h1 h2 e3 e4
  · have ha : a ≠ p := fun z => by
      subst z
      rcases s.ow a o1 with q | q
      · exact n q
      · rw [h] at q; cases q
    rw [upd_ne ha]; exact s.keep a o h n
  · exact s.newf a h f n
  · by_cases ha : a = p
    · subst ha; rw [upd_same]; exact fun z => by cases z
    · rw [upd_ne ha]; exact s.dom a h
theorem Se.setOwn (s : Se K σ F0 H0 env0 F H env) {i : Nat} {xs ys : List D} {m n : Nat} {p : Addr} {vs ws : List V} (e : env[i]? = some (.own xs m)) (hs : σ[i]? = some (some (.ref p))) (hp : H p = some (.lst vs)) (hw : Dvs K F ws ys) :
    Se K σ F0 H0 env0 F (upd H p (.lst ws)) (env.set i (.own ys n)) := by
  have q := s.ss.setOwn (n := n) e hs hp hw
  refine ⟨q.sr, q.fe, q.keep, q.newf, fun a ⟨j, zs, k, e1, e2⟩ => s.ow a ?_, q.dom⟩
  rcases set_get e1 with ⟨rfl, z⟩ | ⟨nj, z⟩
  · exact ⟨j, xs, m, e, e2⟩
  · exact ⟨j, zs, k, z, e2⟩
/-- a slot's mode changes alone -/
theorem SR.mode (s : SR K F H σ env) {i : Nat} {xs : List D} {m : Nat} (n : Nat) (e : env[i]? = some (.own xs m)) : SR K F H σ (env.set i (.own xs n)) ∧ ∀ a, Ow σ (env.set i (.own xs n)) a ↔ Ow σ env a := by
  have hi : i < env.length := (List.getElem?_eq_some_iff.mp e).1
  have sub : ∀ (j : Nat) (zs : List D) (k : Nat), (env.set i (.own xs n))[j]? = some (.own zs k) → ∃ k', env[j]? = some (.own zs k') := fun j zs k e' => by
    rcases set_get e' with ⟨rfl, z⟩ | ⟨nj, z⟩
    · cases z; exact ⟨m, e⟩
    · exact ⟨k, z⟩
  refine ⟨⟨s.fh, by simp [s.len], fun j x e' => ?_, fun j zs k e' => ?_, fun j k xs1 m1 ys1 n1 q e1 e2 e3 e4 => ?_⟩, fun a => ⟨fun ⟨j, zs, k, e1, e2⟩ => ?_, fun ⟨j, zs, k, e1, e2⟩ => ?_⟩⟩
  · rcases set_get e' with ⟨_, z⟩ | ⟨nj, z⟩
    · cases z
    · exact s.dd j x z
  · obtain ⟨k', h⟩ := sub j zs k e'
    exact s.ow j zs k' h
  · obtain ⟨_, h1⟩ := sub j _ _ e1
    obtain ⟨_, h2⟩ := sub k _ _ e2
    exact s.inj j k _ _ _ _ q h1 h2 e3 e4
  · obtain ⟨k', h⟩ := sub j zs k e1
    exact ⟨j, zs, k', h, e2⟩
  · by_cases hj : j = i
    · subst hj; exact ⟨j, xs, n, List.getElem?_set_self hi, e2⟩
    · exact ⟨j, zs, k, by rw [List.getElem?_set_ne (Ne.symm hj)]; exact e1, e2⟩
theorem Se.same (s : Se K σ F0 H0 env0 F H env) (r : SR K F H σ env') (o : ∀ a, Ow σ env' a ↔ Ow σ env a) : Se K σ F0 H0 env0 F H env' := ⟨r, s.fe, s.keep, s.newf, fun a h => s.ow a ((o a).mp h), s.dom⟩
theorem Ss.same (s : Ss K F0 H0 σ0 env0 F H σ env) (r : SR K F H σ env') (o : ∀ a, Ow σ env' a ↔ Ow σ env a) : Ss K F0 H0 σ0 env0 F H σ env' := ⟨r, s.fe, s.keep, s.newf, fun a h => s.ow a ((o a).mp h), s.dom⟩
theorem lockA_ok : ∀ (as : List Ag) {env : En}, SR K F H σ env → SR K F H σ (lockA as env) ∧ ∀ a, Ow σ (lockA as env) a ↔ Ow σ env a
  | [], env, s => ⟨s, fun _ => Iff.rfl⟩
  | .v _ :: as, env, s => lockA_ok as s
  | .r i :: as, env, s => by
    unfold lockA
    split
    · rename_i xs m q
      obtain ⟨h1, h2⟩ := s.mode (m + 2) q
      obtain ⟨h3, h4⟩ := lockA_ok as h1
      exact ⟨h3, fun a => (h4 a).trans (h2 a)⟩
    · exact lockA_ok as s
theorem unlockA_ok : ∀ (as : List Ag) {env : En}, SR K F H σ env → SR K F H σ (unlockA as env) ∧ ∀ a, Ow σ (unlockA as env) a ↔ Ow σ env a
  | [], env, s => ⟨s, fun _ => Iff.rfl⟩
  | .v _ :: as, env, s => unlockA_ok as s
  | .r i :: as, env, s => by
    unfold unlockA
    split
    · rename_i xs m q
      obtain ⟨h1, h2⟩ := s.mode (m - 2) q
      obtain ⟨h3, h4⟩ := unlockA_ok as h1
      exact ⟨h3, fun a => (h4 a).trans (h2 a)⟩
    · exact unlockA_ok as s
end
end Ev

/-! Ev, part D: the operators. -/
namespace Ev
open PySem PySem.Spec PyProof.Rows L2
def rO (K : PySem.W.Frag) (o : Op) : List V → Hp → VK → Prop := fun vs H Q => ∃ F ds t, Ex F H ∧ Rvs K F H vs ds ∧ opF o ds = some t ∧ ∀ F' H' v, Nw F H F' H' → RT K F' H' H v t → Q v H'
def r2 (K : PySem.W.Frag) (o : Op) : R2 := fun x y => rO K o [x, y]
def r1 (K : PySem.W.Frag) (o : Op) : V → Hp → VK → Prop := fun x => rO K o [x]
section
variable {K : PySem.W.Frag} {F H : Hp} {Q : VK} {X : Cx}
theorem fnone (ex : Ex F H) {p : Addr} (h : H p = none) : F p = none := by
  cases q : F p with
  | none => rfl
  | some u => rw [ex _ _ q] at h; cases h
theorem fin_d (ex : Ex F H) {x : D} {v : V} (q : ∀ F' H' v, Nw F H F' H' → RT K F' H' H v (.d x) → Q v H') (h : Dv K F v x) : Q v H := q F H v (Nw.refl ex) h
theorem fin_int (ex : Ex F H) {i : Int} (q : ∀ F' H' v, Nw F H F' H' → RT K F' H' H v (.d (.int i)) → Q v H') : Q (.int i) H := q F H _ (Nw.refl ex) (.int i)
theorem fin_bl (ex : Ex F H) {i : Bool} (q : ∀ F' H' v, Nw F H F' H' → RT K F' H' H v (.d (.bl i)) → Q v H') : Q (.bl i) H := q F H _ (Nw.refl ex) (.bl i)
theorem fin_str (ex : Ex F H) {i : Str} (q : ∀ F' H' v, Nw F H F' H' → RT K F' H' H v (.d (.str i)) → Q v H') : Q (.str i) H := q F H _ (Nw.refl ex) (.str i)
theorem fin_lst (ex : Ex F H) {xs : List D} {vs : List V} {p : Addr} (q : ∀ F' H' v, Nw F H F' H' → RT K F' H' H v (.fr xs) → Q v H') (hp : H p = none) (hd : Dvs K F vs xs) : Q (.ref p) (upd H p (.lst vs)) :=
  q F _ _ (Nw.new ex hp) ⟨p, vs, rfl, upd_same, fnone ex hp, hd, hp⟩
theorem fin_tup (ex : Ex F H) {xs : List D} {vs : List V} {p : Addr} (q : ∀ F' H' v, Nw F H F' H' → RT K F' H' H v (.d (.tup xs)) → Q v H') (hp : H p = none) (hd : Dvs K F vs xs) : Q (.ref p) (upd H p (.tup vs)) :=
  q _ _ _ (Nw.newF ex hp) (.tup (.inl (.inl upd_same)) (hd.ex (Ex.new (fnone ex hp))))
theorem iD_eq {i : Int} {t : T} (h : iD i = some t) : t = .d (.int i) := (Option.some.inj h).symm
theorem bD_eq {i : Bool} {t : T} (h : bD i = some t) : t = .d (.bl i) := (Option.some.inj h).symm
theorem ite_eq {α : Type} {c : Prop} [Decidable c] {x t : α} (h : (if c then some x else none) = some t) : c ∧ x = t := by
  by_cases hc : c
  · rw [if_pos hc] at h; exact ⟨hc, Option.some.inj h⟩
  · rw [if_neg hc] at h; cases h
theorem two_of {x y : V} {ds : List D} (h : Rvs K F H [x, y] ds) : ∃ d e, ds = [d, e] ∧ Rv K F H x d ∧ Rv K F H y e := by
  match ds, h with
  | [d, e], h => exact ⟨d, e, rfl, h.1, h.2.1⟩
theorem one_of {x : V} {ds : List D} (h : Rvs K F H [x] ds) : ∃ d, ds = [d] ∧ Rv K F H x d := by
  match ds, h with
  | [d], h => exact ⟨d, rfl, h.1⟩
theorem bigI_lt {i : Int} {n : Nat} (h : i.natAbs < 2 ^ n) (h0 : 0 < n) : bigI i < n := PySem.Flt.log2_lt_of h0 h
theorem mulOk_ok {i j : Int} (h : mulOk i j = true) : IntMulOk i j := by
  have hb : i.natAbs.log2 + j.natAbs.log2 < 100000000 := by
    have := of_decide_eq_true (show decide (bigI i + bigI j < 100000000) = true by simpa [mulOk] using h)
    exact this
  have b : ∀ x : Int, Builtin.Int.intBits x ≤ x.natAbs.log2 + 1 := fun x => by
    unfold Builtin.Int.intBits
    split <;> omega
  have h1 := b i
  have h2 := b j
  have e : bitsLine = 134217728 := by decide
  unfold IntMulOk
  intro z
  rw [Bool.and_eq_true] at z
  have z2 := z.2
  unfold Builtin.Int.intTooBig at z2
  have z3 := of_decide_eq_true z2
  rw [e] at z3
  omega
theorem divOk_ok {j : Int} (h : divOk j = true) : j ≠ 0 ∧ j.natAbs.log2 < 9000 := by
  simp only [divOk, Bool.and_eq_true, bne_iff_ne, ne_eq] at h
  exact ⟨h.1, by simpa [bigI] using h.2⟩
theorem line_eq : sizeLine = line := sizeLine_eq
/-- + of two lists that are tracked -/
theorem o_add : OpR X (binaryOp .Add) (r2 X.K .add) := by
  intro pins s σ H x y v u Q I rx ry ⟨F, ds, t, ex, rv, e, q⟩
  obtain ⟨d1, d2, rfl, r1, r2⟩ := two_of rv
  cases d1 with
  | int a =>
    cases d2 with
    | int b => cases iD_eq e; cases r1.int; cases r2.int; exact op_add pins s σ H _ _ v u Q I rx ry ⟨a, b, rfl, rfl, fin_int ex q⟩
    | bl b => cases iD_eq e; cases r1.int; cases r2.bl; exact op_add_ib pins s σ H _ _ v u Q I rx ry ⟨a, b, rfl, rfl, by cases b <;> exact fin_int ex q⟩
    | _ => exact nomatch (show (none : Option T) = some t from e)
  | str a =>
    cases d2 with
    | str b =>
      obtain ⟨hl, rfl⟩ := ite_eq (show (if a.length + b.length ≤ line then some (T.d (.str (a ++ b))) else none) = some t from e)
      cases r1.str; cases r2.str
      exact op_add_str pins s σ H _ _ v u Q I rx ry ⟨a, b, rfl, rfl, by rw [line_eq]; exact hl, fin_str ex q⟩
    | _ => exact nomatch (show (none : Option T) = some t from e)
  | lst a =>
    cases d2 with
    | lst b =>
      obtain ⟨hl, rfl⟩ := ite_eq (show (if a.length + b.length ≤ line then some (T.fr (a ++ b)) else none) = some t from e)
      obtain ⟨p, vs, rfl, hp, dp⟩ := r1.lst ex
      obtain ⟨p', vs', rfl, hp', dp'⟩ := r2.lst ex
      exact op_cat pins s σ H _ _ v u Q I rx ry ⟨p, p', vs, vs', rfl, rfl, hp, hp', by rw [line_eq, dp.len, dp'.len]; exact hl, fun r hr => fin_lst ex q hr (dp.app dp')⟩
    | _ => exact nomatch (show (none : Option T) = some t from e)
  | tup a =>
    cases d2 with
    | tup b =>
      obtain ⟨hl, rfl⟩ := ite_eq (show (if a.length + b.length ≤ line then some (T.d (.tup (a ++ b))) else none) = some t from e)
      obtain ⟨p, vs, rfl, hp, hpF, dp⟩ := r1.tup ex
      obtain ⟨p', vs', rfl, hp', hpF', dp'⟩ := r2.tup ex
      have nil_of : ∀ {a : List D} {ws : List V}, Dvs X.K F ws a → ws = [] → a = [] := fun h z => by subst z; cases h; rfl
      exact op_catA pins s σ H _ _ v u Q I rx ry ⟨p, p', vs, vs', rfl, rfl, hp, hp', by rw [line_eq, dp.len, dp'.len]; exact hl, fun z => by
          cases nil_of dp z
          exact fin_d ex q (.tup hpF' dp'), fun _ z => by
          cases nil_of dp' z
          rw [List.append_nil] at q
          exact fin_d ex q (.tup hpF dp), fun _ _ r hr => fin_tup ex q hr (dp.app dp')⟩
    | _ => exact nomatch (show (none : Option T) = some t from e)
  | _ => cases d2 <;> exact nomatch (show (none : Option T) = some t from e)
theorem o_sub : OpR X (binaryOp .Sub) (r2 X.K .sub) := by
  intro pins s σ H x y v u Q I rx ry ⟨F, ds, t, ex, rv, e, q⟩
  obtain ⟨d1, d2, rfl, r1, r2⟩ := two_of rv
  cases d1 with
  | int a =>
    cases d2 with
    | int b => cases iD_eq e; cases r1.int; cases r2.int; exact op_sub pins s σ H _ _ v u Q I rx ry ⟨a, b, rfl, rfl, fin_int ex q⟩
    | _ => exact nomatch (show (none : Option T) = some t from e)
  | bl a =>
    cases d2 with
    | bl b =>
      cases iD_eq e; cases r1.bl; cases r2.bl
      cases rx; cases ry
      exact PyProof.Rows.sub_bool (p := a) (q := b) ⟨.int _, H, I.tok _, ⟨_, rfl⟩, by cases a <;> cases b <;> exact fin_int ex q⟩
    | _ => exact nomatch (show (none : Option T) = some t from e)
  | _ => cases d2 <;> exact nomatch (show (none : Option T) = some t from e)
theorem o_mul : OpR X (binaryOp .Mult) (r2 X.K .mul) := by
  intro pins s σ H x y v u Q I rx ry ⟨F, ds, t, ex, rv, e, q⟩
  obtain ⟨d1, d2, rfl, r1, r2⟩ := two_of rv
  cases d1 with
  | int a =>
    cases d2 with
    | int b =>
      have e' : (if mulOk a b = true then iD (a * b) else none) = some t := e
      obtain ⟨hm, rfl⟩ := ite_eq (x := T.d (.int (a * b))) e'
      cases r1.int; cases r2.int
      obtain ⟨t1, rfl⟩ := rx
      obtain ⟨t2, rfl⟩ := ry
      exact mul_int ⟨.int _, H, I.tok _, ⟨_, rfl⟩, fin_int ex q⟩ (mulOk_ok hm)
    | _ => exact nomatch (show (none : Option T) = some t from e)
  | lst a =>
    cases d2 with
    | int b =>
      obtain ⟨⟨h1, h2, h3⟩, rfl⟩ := ite_eq (show (if a.length * b.toNat ≤ line ∧ -1000000 ≤ b ∧ b ≤ 1000000 then some (T.fr (List.replicate b.toNat a).flatten) else none) = some t from e)
      obtain ⟨p, vs, rfl, hp, dp⟩ := r1.lst ex
      cases r2.int
      exact op_rep pins s σ H _ _ v u Q I rx ry ⟨p, b, vs, rfl, rfl, hp, by omega, by omega, by rw [line_eq, dp.len]; exact h1, fun r hr => fin_lst ex q hr (dp.rep _)⟩
    | _ => exact nomatch (show (none : Option T) = some t from e)
  | tup a =>
    cases d2 with
    | int b =>
      obtain ⟨⟨h0, h1, h2, h3⟩, rfl⟩ := ite_eq (show (if a.length ≠ 0 ∧ 2 ≤ b ∧ b ≤ 1000 ∧ a.length ≤ 1000 then some (T.d (.tup (List.replicate b.toNat a).flatten)) else none) = some t from e)
      obtain ⟨p, vs, rfl, hp, hpF, dp⟩ := r1.tup ex
      cases r2.int
      exact op_repT pins s σ H _ _ v u Q I rx ry ⟨p, b, vs, rfl, rfl, hp, fun z => h0 (by rw [← dp.len, z]; rfl), h1, h2, by rw [dp.len]; exact h3, fun r hr => fin_tup ex q hr (dp.rep _)⟩
    | _ => exact nomatch (show (none : Option T) = some t from e)
  | _ => cases d2 <;> exact nomatch (show (none : Option T) = some t from e)
theorem ii_of {o : Op} {x y : V} {ds : List D} {t : T} (rv : Rvs K F H [x, y] ds) (e : opF o ds = some t) (hn : ∀ d1 d2, (∀ a b, ¬ (d1 = .int a ∧ d2 = .int b)) → opF o [d1, d2] = none) : ∃ a b, ds = [.int a, .int b] ∧ x = .int a ∧ y = .int b := by
  obtain ⟨d1, d2, rfl, r1, r2⟩ := two_of rv
  by_cases h : ∃ a b, d1 = .int a ∧ d2 = .int b
  · obtain ⟨a, b, rfl, rfl⟩ := h
    exact ⟨a, b, rfl, r1.int, r2.int⟩
  · rw [hn d1 d2 fun a b z => h ⟨a, b, z⟩] at e; cases e
theorem o_fdiv : OpR X (binaryOp .FloorDiv) (r2 X.K .fdiv) := by
  intro pins s σ H x y v u Q I rx ry ⟨F, ds, t, ex, rv, e, q⟩
  obtain ⟨a, b, rfl, rfl, rfl⟩ := ii_of rv e (fun d1 d2 h => by cases d1 <;> cases d2 <;> first | rfl | exact absurd ⟨rfl, rfl⟩ (h _ _))
  have e' : (if divOk b = true then iD (a.fdiv b) else none) = some t := e
  obtain ⟨hm, rfl⟩ := ite_eq (x := T.d (.int (a.fdiv b))) e'
  obtain ⟨t1, rfl⟩ := rx
  obtain ⟨t2, rfl⟩ := ry
  obtain ⟨h1, h2⟩ := divOk_ok hm
  exact floordiv_int h1 ⟨.int _, H, I.tok _, ⟨_, rfl⟩, fin_int ex q⟩ (.inl (PyProof.noPylong_of_log2 h2))
theorem i_fdiv : OpR X (inplaceOp .FloorDiv) (r2 X.K .fdiv) := by
  intro pins s σ H x y v u Q I rx ry ⟨F, ds, t, ex, rv, e, q⟩
  obtain ⟨a, b, rfl, rfl, rfl⟩ := ii_of rv e (fun d1 d2 h => by cases d1 <;> cases d2 <;> first | rfl | exact absurd ⟨rfl, rfl⟩ (h _ _))
  have e' : (if divOk b = true then iD (a.fdiv b) else none) = some t := e
  obtain ⟨hm, rfl⟩ := ite_eq (x := T.d (.int (a.fdiv b))) e'
  obtain ⟨t1, rfl⟩ := rx
  obtain ⟨t2, rfl⟩ := ry
  obtain ⟨h1, h2⟩ := divOk_ok hm
  exact ifloordiv_int h1 ⟨.int _, H, I.tok _, ⟨_, rfl⟩, fin_int ex q⟩ (.inl (PyProof.noPylong_of_log2 h2))
theorem o_mod : OpR X (binaryOp .Mod) (r2 X.K .mod) := by
  intro pins s σ H x y v u Q I rx ry ⟨F, ds, t, ex, rv, e, q⟩
  obtain ⟨a, b, rfl, rfl, rfl⟩ := ii_of rv e (fun d1 d2 h => by cases d1 <;> cases d2 <;> first | rfl | exact absurd ⟨rfl, rfl⟩ (h _ _))
  have e' : (if (b != 0) = true then iD (a.fmod b) else none) = some t := e
  obtain ⟨hm, rfl⟩ := ite_eq (x := T.d (.int (a.fmod b))) e'
  exact op_modN pins s σ H _ _ v u Q I rx ry ⟨a, b, rfl, rfl, by simpa using hm, fin_int ex q⟩
theorem o_pow : OpR X (binaryOp .Pow) (r2 X.K .pow) := by
  intro pins s σ H x y v u Q I rx ry ⟨F, ds, t, ex, rv, e, q⟩
  obtain ⟨a, b, rfl, rfl, rfl⟩ := ii_of rv e (fun d1 d2 h => by cases d1 <;> cases d2 <;> first | rfl | exact absurd ⟨rfl, rfl⟩ (h _ _))
  have e' : (if 0 ≤ b ∧ b ≤ 1000000 ∧ a.natAbs < 2 ^ 64 then iD (a ^ b.toNat) else none) = some t := e
  obtain ⟨hm, rfl⟩ := ite_eq (x := T.d (.int (a ^ b.toNat))) e'
  exact op_pow pins s σ H _ _ v u Q I rx ry ⟨a, b, rfl, rfl, hm, fin_int ex q⟩
theorem o_shl : OpR X (binaryOp .LShift) (r2 X.K .shl) := by
  intro pins s σ H x y v u Q I rx ry ⟨F, ds, t, ex, rv, e, q⟩
  obtain ⟨a, b, rfl, rfl, rfl⟩ := ii_of rv e (fun d1 d2 h => by cases d1 <;> cases d2 <;> first | rfl | exact absurd ⟨rfl, rfl⟩ (h _ _))
  have e' : (if 0 ≤ b ∧ b ≤ 1000000 ∧ a.natAbs < 2 ^ 64 then iD (a * 2 ^ b.toNat) else none) = some t := e
  obtain ⟨hm, rfl⟩ := ite_eq (x := T.d (.int (a * 2 ^ b.toNat))) e'
  exact op_shl pins s σ H _ _ v u Q I rx ry ⟨a, b, rfl, rfl, hm, fin_int ex q⟩
theorem i_add : OpR X (inplaceOp .Add) (fun x y H Q => ∃ i j, x = .int i ∧ y = .int j ∧ Q (.int (i + j)) H) := iop_add
theorem u_neg : UnR X (unaryOp .USub) (r1 X.K .neg) := by
  intro pins s σ H x v Q I rx ⟨F, ds, t, ex, rv, e, q⟩
  obtain ⟨d1, rfl, r1⟩ := one_of rv
  cases d1 with
  | int a => cases iD_eq e; cases r1.int; exact un_neg pins s σ H _ v Q I rx ⟨a, rfl, fin_int ex q⟩
  | _ => exact nomatch (show (none : Option T) = some t from e)

/-! ### comparisons -/
mutual
theorem eqD_py : ∀ (a b : D) (n m : Nat), sh n a = true → sh m b = true → eqD a b = PyData.eqv (toPy a) (toPy b)
  | .non, b, _, _, _, h => by cases b <;> first | (simp [sh] at h; done) | simp [eqD, toPy, PyData.eqv]
  | .bl x, b, _, _, _, h => by cases b <;> first | (simp [sh] at h; done) | simp [eqD, toPy, PyData.eqv]
  | .int x, b, _, _, _, h => by cases b <;> first | (simp [sh] at h; done) | simp [eqD, toPy, PyData.eqv]
  | .str x, b, _, _, _, h => by cases b <;> first | (simp [sh] at h; done) | simp [eqD, toPy, PyData.eqv]
  | .fn x, b, _, _, h, _ => by simp [sh] at h
  | .scr x, b, _, _, h, _ => by simp [sh] at h
  | .tup x, .tup y, n, m, h, h' => by
    cases n with
    | zero => simp [sh] at h
    | succ n => cases m with
      | zero => simp [sh] at h'
      | succ m =>
        rw [eqD, toPy, toPy, PyData.eqv]
        exact eqDs_py x y n m (by simpa [sh] using h) (by simpa [sh] using h')
  | .lst x, .lst y, n, m, h, h' => by
    cases n with
    | zero => simp [sh] at h
    | succ n => cases m with
      | zero => simp [sh] at h'
      | succ m =>
        rw [eqD, toPy, toPy, PyData.eqv]
        exact eqDs_py x y n m (by simpa [sh] using h) (by simpa [sh] using h')
  | .tup x, .non, _, _, _, _ => by simp [eqD, toPy, PyData.eqv]
  | .tup x, .bl _, _, _, _, _ => by simp [eqD, toPy, PyData.eqv]
  | .tup x, .int _, _, _, _, _ => by simp [eqD, toPy, PyData.eqv]
  | .tup x, .str _, _, _, _, _ => by simp [eqD, toPy, PyData.eqv]
  | .tup x, .lst _, _, _, _, _ => by simp [eqD, toPy, PyData.eqv]
  | .tup x, .fn _, _, _, _, h => by simp [sh] at h
  | .tup x, .scr _, _, _, _, h => by simp [sh] at h
  | .lst x, .non, _, _, _, _ => by simp [eqD, toPy, PyData.eqv]
  | .lst x, .bl _, _, _, _, _ => by simp [eqD, toPy, PyData.eqv]
  | .lst x, .int _, _, _, _, _ => by simp [eqD, toPy, PyData.eqv]
  | .lst x, .str _, _, _, _, _ => by simp [eqD, toPy, PyData.eqv]
  | .lst x, .tup _, _, _, _, _ => by simp [eqD, toPy, PyData.eqv]
  | .lst x, .fn _, _, _, _, h => by simp [sh] at h
  | .lst x, .scr _, _, _, _, h => by simp [sh] at h
theorem eqDs_py : ∀ (a b : List D) (n m : Nat), shs n a = true → shs m b = true → eqDs a b = PyData.eqvAll (toPys a) (toPys b)
  | [], [], _, _, _, _ => by simp [eqDs, toPys, PyData.eqvAll]
  | [], _ :: _, _, _, _, _ => by simp [eqDs, toPys, PyData.eqvAll]
  | _ :: _, [], _, _, _, _ => by simp [eqDs, toPys, PyData.eqvAll]
  | x :: xs, y :: ys, n, m, h, h' => by
    rw [shs, Bool.and_eq_true] at h h'
    rw [eqDs, toPys, toPys, PyData.eqvAll, eqD_py x y n m h.1 h'.1, eqDs_py xs ys n m h.2 h'.2]
end
mutual
theorem py_lay : ∀ (d : D) (n : Nat), sh n d = true → (toPy d).canLay0 = true ∧ (toPy d).depth ≤ n
  | .non, _, _ => by simp [toPy, PyData.canLay0, PyData.depth]
  | .bl _, _, _ => by simp [toPy, PyData.canLay0, PyData.depth]
  | .int _, _, _ => by simp [toPy, PyData.canLay0, PyData.depth]
  | .str x, _, h => by simp only [toPy, PyData.canLay0, PyData.depth, PyData.strOk]; exact ⟨by simpa [sh] using h, Nat.zero_le _⟩
  | .fn _, _, h => by simp [sh] at h
  | .scr _, _, h => by simp [sh] at h
  | .tup xs, 0, h => by simp [sh] at h
  | .lst xs, 0, h => by simp [sh] at h
  | .tup xs, n + 1, h => by
    obtain ⟨h1, h2⟩ := pys_lay xs n (by simpa [sh] using h)
    simp only [toPy, PyData.canLay0, PyData.depth]
    exact ⟨h1, by omega⟩
  | .lst xs, n + 1, h => by
    obtain ⟨h1, h2⟩ := pys_lay xs n (by simpa [sh] using h)
    simp only [toPy, PyData.canLay0, PyData.depth]
    exact ⟨h1, by omega⟩
theorem pys_lay : ∀ (d : List D) (n : Nat), shs n d = true → PyData.canLayAll0 (toPys d) = true ∧ PyData.depthAll (toPys d) ≤ n
  | [], _, _ => by simp [toPys, PyData.canLayAll0, PyData.depthAll]
  | x :: xs, n, h => by
    rw [shs, Bool.and_eq_true] at h
    obtain ⟨h1, h2⟩ := py_lay x n h.1
    obtain ⟨h3, h4⟩ := pys_lay xs n h.2
    simp only [toPys, PyData.canLayAll0, PyData.depthAll, h1, h3, Bool.and_self]
    exact ⟨trivial, by omega⟩
end
theorem shaped_of {d : D} {n : Nat} (h : sh n d = true) (hn : n ≤ 64) : SeqAt.shaped (toPy d) = true := by
  obtain ⟨h1, h2⟩ := py_lay d n h
  simp only [SeqAt.shaped, h1, Bool.true_and]
  exact decide_eq_true (by omega)
theorem any_py {x : D} {n : Nat} (hx : sh n x = true) : ∀ {m : Nat} (ys : List D), shs m ys = true → (toPys ys).any (fun y => PyData.eqv y (toPy x)) = ys.any fun y => eqD y x
  | _, [], _ => by simp [toPys]
  | m, y :: ys, h => by
    rw [shs, Bool.and_eq_true] at h
    rw [toPys, List.any_cons, List.any_cons, any_py hx ys h.2, eqD_py y x m n h.1 hx]
theorem eq_cases {o : Op} {d1 d2 : D} {t : T} (ho : o = .eq ∨ o = .ne) (e : opF o [d1, d2] = some t) :
    (∃ a b, d1 = .int a ∧ d2 = .int b ∧ t = .d (.bl (if o = .eq then a == b else !(a == b)))) ∨ (∃ a b, d1 = .str a ∧ d2 = .str b ∧ t = .d (.bl (if o = .eq then a == b else !(a == b)))) ∨
      (sh 60 d1 = true ∧ sh 60 d2 = true ∧ t = .d (.bl (if o = .eq then eqD d1 d2 else !eqD d1 d2))) := by
  rcases ho with rfl | rfl
  · by_cases h : ∃ a b, d1 = .int a ∧ d2 = .int b
    · obtain ⟨a, b, rfl, rfl⟩ := h
      exact .inl ⟨a, b, rfl, rfl, bD_eq e⟩
    · by_cases h' : ∃ a b, d1 = .str a ∧ d2 = .str b
      · obtain ⟨a, b, rfl, rfl⟩ := h'
        exact .inr (.inl ⟨a, b, rfl, rfl, bD_eq e⟩)
      · have e2 : (if (sh 60 d1 && sh 60 d2) = true then bD (eqD d1 d2) else none) = some t := by
          rw [← e]; cases d1 <;> cases d2 <;> first | rfl | exact absurd ⟨_, _, rfl, rfl⟩ h | exact absurd ⟨_, _, rfl, rfl⟩ h'
        obtain ⟨h1, rfl⟩ := ite_eq (x := T.d (.bl (eqD d1 d2))) e2
        rw [Bool.and_eq_true] at h1
        exact .inr (.inr ⟨h1.1, h1.2, rfl⟩)
  · by_cases h : ∃ a b, d1 = .int a ∧ d2 = .int b
    · obtain ⟨a, b, rfl, rfl⟩ := h
      exact .inl ⟨a, b, rfl, rfl, bD_eq e⟩
    · by_cases h' : ∃ a b, d1 = .str a ∧ d2 = .str b
      · obtain ⟨a, b, rfl, rfl⟩ := h'
        exact .inr (.inl ⟨a, b, rfl, rfl, bD_eq e⟩)
      · have e2 : (if (sh 60 d1 && sh 60 d2) = true then bD (!eqD d1 d2) else none) = some t := by
          rw [← e]; cases d1 <;> cases d2 <;> first | rfl | exact absurd ⟨_, _, rfl, rfl⟩ h | exact absurd ⟨_, _, rfl, rfl⟩ h'
        obtain ⟨h1, rfl⟩ := ite_eq (x := T.d (.bl (!eqD d1 d2))) e2
        rw [Bool.and_eq_true] at h1
        exact .inr (.inr ⟨h1.1, h1.2, rfl⟩)
theorem c_eq (hu : X.A.units + 64 < cLine) : OpR X (compareOp .Eq) (r2 X.K .eq) := by
  intro pins s σ H x y v u Q I rx ry ⟨F, ds, t, ex, rv, e, q⟩
  obtain ⟨d1, d2, rfl, r1, r2⟩ := two_of rv
  rcases eq_cases (.inl rfl) e with ⟨a, b, rfl, rfl, rfl⟩ | ⟨a, b, rfl, rfl, rfl⟩ | ⟨h1, h2, rfl⟩
  · cases r1.int; cases r2.int
    exact op_eq pins s σ H _ _ v u Q I rx ry ⟨rfl, by rw [dec_int]; exact fin_bl ex q⟩
  · cases r1.str; cases r2.str
    exact op_eq pins s σ H _ _ v u Q I rx ry ⟨rfl, by rw [dec_str]; exact fin_bl ex q⟩
  · refine op_eqD hu pins s σ H x y v u Q I rx ry ⟨toPy d1, toPy d2, (r1.dv ex).py _ _ _ h1, (r2.dv ex).py _ _ _ h2, shaped_of h1 (by decide), shaped_of h2 (by decide), ?_⟩
    rw [← eqD_py d1 d2 60 60 h1 h2]
    exact fin_bl ex q
theorem c_ne (hu : X.A.units + 64 < cLine) : OpR X (compareOp .NotEq) (r2 X.K .ne) := by
  intro pins s σ H x y v u Q I rx ry ⟨F, ds, t, ex, rv, e, q⟩
  obtain ⟨d1, d2, rfl, r1, r2⟩ := two_of rv
  rcases eq_cases (.inr rfl) e with ⟨a, b, rfl, rfl, rfl⟩ | ⟨a, b, rfl, rfl, rfl⟩ | ⟨h1, h2, rfl⟩
  · cases r1.int; cases r2.int
    exact op_ne pins s σ H _ _ v u Q I rx ry ⟨rfl, by rw [dec_int]; exact fin_bl ex q⟩
  · cases r1.str; cases r2.str
    exact op_ne pins s σ H _ _ v u Q I rx ry ⟨rfl, by rw [dec_str]; exact fin_bl ex q⟩
  · refine op_neD hu pins s σ H x y v u Q I rx ry ⟨toPy d1, toPy d2, (r1.dv ex).py _ _ _ h1, (r2.dv ex).py _ _ _ h2, shaped_of h1 (by decide), shaped_of h2 (by decide), ?_⟩
    rw [← eqD_py d1 d2 60 60 h1 h2]
    exact fin_bl ex q
theorem lexI_eq : ∀ ns ms : List Int, lexI ns ms = HT.lexLt ns ms
  | [], [] => rfl
  | [], _ :: _ => rfl
  | _ :: _, [] => rfl
  | x :: xs, y :: ys => by rw [lexI, HT.lexLt_cons, lexI_eq xs ys]
theorem c_lt (hu : X.A.units < cLine) : OpR X (compareOp .Lt) (r2 X.K .lt) := by
  intro pins s σ H x y v u Q I rx ry ⟨F, ds, t, ex, rv, e, q⟩
  obtain ⟨d1, d2, rfl, r1, r2⟩ := two_of rv
  cases d1 with
  | int a =>
    cases d2 with
    | int b =>
      cases bD_eq e
      cases r1.int; cases r2.int
      exact op_lt pins s σ H _ _ v u Q I rx ry ⟨a, b, rfl, rfl, fin_bl ex q⟩
    | _ => exact nomatch (show (none : Option T) = some t from e)
  | tup a =>
    cases d2 with
    | tup b =>
      obtain ⟨ns, e1, e2⟩ := Option.bind_eq_some_iff.mp (show ((intsD a).bind fun ns => (intsD b).bind fun ms => bD (lexI ns ms)) = some t from e)
      obtain ⟨ms, e3, e4⟩ := Option.bind_eq_some_iff.mp e2
      cases bD_eq e4
      obtain ⟨p, vs, rfl, hp, hpF, dp⟩ := r1.tup ex
      obtain ⟨p', vs', rfl, hp', hpF', dp'⟩ := r2.tup ex
      rw [(dp.ints e1).1] at hp
      rw [(dp'.ints e3).1] at hp'
      exact op_ltT hu pins s σ H _ _ v u Q I rx ry ⟨p, p', ns, ms, rfl, rfl, hp, hp', by rw [← lexI_eq]; exact fin_bl ex q⟩
    | _ => exact nomatch (show (none : Option T) = some t from e)
  | _ => cases d2 <;> exact nomatch (show (none : Option T) = some t from e)
theorem c_le : OpR X (compareOp .LtE) (r2 X.K .le) := by
  intro pins s σ H x y v u Q I rx ry ⟨F, ds, t, ex, rv, e, q⟩
  obtain ⟨a, b, rfl, rfl, rfl⟩ := ii_of rv e (fun d1 d2 h => by cases d1 <;> cases d2 <;> first | rfl | exact absurd ⟨rfl, rfl⟩ (h _ _))
  cases bD_eq e
  exact op_le pins s σ H _ _ v u Q I rx ry ⟨a, b, rfl, rfl, fin_bl ex q⟩
theorem c_gt : OpR X (compareOp .Gt) (r2 X.K .gt) := by
  intro pins s σ H x y v u Q I rx ry ⟨F, ds, t, ex, rv, e, q⟩
  obtain ⟨a, b, rfl, rfl, rfl⟩ := ii_of rv e (fun d1 d2 h => by cases d1 <;> cases d2 <;> first | rfl | exact absurd ⟨rfl, rfl⟩ (h _ _))
  cases bD_eq e
  exact op_gt pins s σ H _ _ v u Q I rx ry ⟨a, b, rfl, rfl, fin_bl ex q⟩
theorem c_ge : OpR X (compareOp .GtE) (r2 X.K .ge) := by
  intro pins s σ H x y v u Q I rx ry ⟨F, ds, t, ex, rv, e, q⟩
  obtain ⟨a, b, rfl, rfl, rfl⟩ := ii_of rv e (fun d1 d2 h => by cases d1 <;> cases d2 <;> first | rfl | exact absurd ⟨rfl, rfl⟩ (h _ _))
  cases bD_eq e
  exact op_ge pins s σ H _ _ v u Q I rx ry ⟨a, b, rfl, rfl, fin_bl ex q⟩
theorem in_cases {o : Op} {d1 d2 : D} {t : T} (ho : o = .isin ∨ o = .notin) (e : opF o [d1, d2] = some t) : ∃ ys, (d2 = .lst ys ∨ d2 = .tup ys) ∧ sh 60 d1 = true ∧ shs 59 ys = true ∧ t = .d (.bl (if o = .isin then ys.any fun y => eqD y d1 else !(ys.any fun y => eqD y d1))) := by
  rcases ho with rfl | rfl
  · cases d2 with
    | lst ys =>
      obtain ⟨h1, rfl⟩ := ite_eq (x := T.d (.bl (ys.any fun y => eqD y d1))) (show (if (sh 60 d1 && shs 59 ys) = true then bD (ys.any fun y => eqD y d1) else none) = some t by rw [← e]; cases d1 <;> rfl)
      rw [Bool.and_eq_true] at h1
      exact ⟨ys, .inl rfl, h1.1, h1.2, rfl⟩
    | tup ys =>
      obtain ⟨h1, rfl⟩ := ite_eq (x := T.d (.bl (ys.any fun y => eqD y d1))) (show (if (sh 60 d1 && shs 59 ys) = true then bD (ys.any fun y => eqD y d1) else none) = some t by rw [← e]; cases d1 <;> rfl)
      rw [Bool.and_eq_true] at h1
      exact ⟨ys, .inr rfl, h1.1, h1.2, rfl⟩
    | _ => cases d1 <;> exact nomatch (show (none : Option T) = some t from e)
  · cases d2 with
    | lst ys =>
      obtain ⟨h1, rfl⟩ := ite_eq (x := T.d (.bl (!(ys.any fun y => eqD y d1)))) (show (if (sh 60 d1 && shs 59 ys) = true then bD (!(ys.any fun y => eqD y d1)) else none) = some t by rw [← e]; cases d1 <;> rfl)
      rw [Bool.and_eq_true] at h1
      exact ⟨ys, .inl rfl, h1.1, h1.2, rfl⟩
    | tup ys =>
      obtain ⟨h1, rfl⟩ := ite_eq (x := T.d (.bl (!(ys.any fun y => eqD y d1)))) (show (if (sh 60 d1 && shs 59 ys) = true then bD (!(ys.any fun y => eqD y d1)) else none) = some t by rw [← e]; cases d1 <;> rfl)
      rw [Bool.and_eq_true] at h1
      exact ⟨ys, .inr rfl, h1.1, h1.2, rfl⟩
    | _ => cases d1 <;> exact nomatch (show (none : Option T) = some t from e)
theorem c_in (hu : X.A.units + 65 < cLine) : OpR X (compareOp .In) (r2 X.K .isin) := by
  intro pins s σ H x y v u Q I rx ry ⟨F, ds, t, ex, rv, e, q⟩
  obtain ⟨d1, d2, rfl, r1, r2⟩ := two_of rv
  obtain ⟨ys, hy, h1, h2, rfl⟩ := in_cases (.inl rfl) e
  obtain ⟨as, p1⟩ := Dp.reads I _ x v ((r1.dv ex).py _ _ _ h1) rx
  have sx := shaped_of h1 (by decide)
  have fin : EP X pins σ Q (.bool ((toPys ys).any fun y => PyData.eqv y (toPy d1))) s := by
    rw [any_py h1 ys h2]; exact ⟨.bl _, H, I, rfl, fin_bl ex q⟩
  obtain ⟨l1, _⟩ := pys_lay ys 59 h2
  rcases hy with rfl | rfl
  · obtain ⟨bs, p2⟩ := Dp.reads I _ y u ((r2.dv ex).py _ _ 60 (by simpa [sh] using h2)) ry
    rw [toPy] at p2
    exact SeqAt.in_list_reads p2 p1 l1 (SeqAt.canLay_of_shaped sx) (room_in_shaped sx hu) fin
  · obtain ⟨bs, p2⟩ := Dp.reads I _ y u ((r2.dv ex).py _ _ 60 (by simpa [sh] using h2)) ry
    rw [toPy] at p2
    exact SeqAt.in_tuple_reads p2 p1 l1 (SeqAt.canLay_of_shaped sx) (room_in_shaped sx hu) fin
theorem c_notin (hu : X.A.units + 65 < cLine) : OpR X (compareOp .NotIn) (r2 X.K .notin) := by
  intro pins s σ H x y v u Q I rx ry ⟨F, ds, t, ex, rv, e, q⟩
  obtain ⟨d1, d2, rfl, r1, r2⟩ := two_of rv
  obtain ⟨ys, hy, h1, h2, rfl⟩ := in_cases (.inr rfl) e
  obtain ⟨as, p1⟩ := Dp.reads I _ x v ((r1.dv ex).py _ _ _ h1) rx
  have sx := shaped_of h1 (by decide)
  have fin : EP X pins σ Q (.bool (!(toPys ys).any fun y => PyData.eqv y (toPy d1))) s := by
    rw [any_py h1 ys h2]; exact ⟨.bl _, H, I, rfl, fin_bl ex q⟩
  obtain ⟨l1, _⟩ := pys_lay ys 59 h2
  rcases hy with rfl | rfl
  · obtain ⟨bs, p2⟩ := Dp.reads I _ y u ((r2.dv ex).py _ _ 60 (by simpa [sh] using h2)) ry
    rw [toPy] at p2
    exact SeqAt.notIn_list_reads p2 p1 l1 (SeqAt.canLay_of_shaped sx) (room_in_shaped sx hu) fin
  · obtain ⟨bs, p2⟩ := Dp.reads I _ y u ((r2.dv ex).py _ _ 60 (by simpa [sh] using h2)) ry
    rw [toPy] at p2
    exact SeqAt.notIn_tuple_reads p2 p1 l1 (SeqAt.canLay_of_shaped sx) (room_in_shaped sx hu) fin
end
end Ev

/-! Ev, part D2: items, slices, built-in functions. -/
namespace Ev
open PySem PySem.Spec PyProof.Rows L2
section
variable {K : PySem.W.Frag} {F H : Hp} {Q : VK} {X : Cx}
theorem atI_dv {vs : List V} {xs : List D} {i : Int} {d : D} (h : Dvs K F vs xs) (e : atI xs i = some d) : ∃ v, L2.atI vs i = some v ∧ Dv K F v d := by
  unfold atI at e
  obtain ⟨j, e1, e2⟩ := Option.bind_eq_some_iff.mp e
  obtain ⟨v, h1, h2⟩ := h.get e2
  refine ⟨v, ?_, h2⟩
  unfold L2.atI
  rw [h.len, show L2.ixN xs.length i = some j from e1]
  exact h1
theorem ix_ok : IxR X (r2 X.K .ix) := by
  intro value slice pins s σ H x y v u Q I rx ry ⟨F, ds, t, ex, rv, e, q⟩ hs
  obtain ⟨d1, d2, rfl, r1, r2⟩ := two_of rv
  cases d2 with
  | int i =>
    cases r2.int
    cases d1 with
    | lst xs =>
      obtain ⟨z, e1, e2⟩ := Option.map_eq_some_iff.mp (show (atI xs i).map T.d = some t from e)
      subst e2
      obtain ⟨p, vs, rfl, hp, dp⟩ := r1.lst ex
      obtain ⟨w, h1, h2⟩ := atI_dv dp e1
      exact ix_list value slice pins s σ H _ _ v u Q I rx ry ⟨p, vs, i, w, rfl, rfl, .inl (.inl hp), h1, fin_d ex q h2⟩ hs
    | tup xs =>
      obtain ⟨z, e1, e2⟩ := Option.map_eq_some_iff.mp (show (atI xs i).map T.d = some t from e)
      subst e2
      obtain ⟨p, vs, rfl, hp, hpF, dp⟩ := r1.tup ex
      obtain ⟨w, h1, h2⟩ := atI_dv dp e1
      exact ix_tup value slice pins s σ H _ _ v u Q I rx ry ⟨p, vs, i, w, rfl, rfl, hp, h1, fin_d ex q h2⟩ hs
    | scr ns =>
      obtain ⟨z, e1, e2⟩ := Option.map_eq_some_iff.mp (show (atI (ns.map .int) i).map T.d = some t from e)
      subst e2
      obtain ⟨p, rfl, hp⟩ := r1.scr ex
      obtain ⟨w, h1, h2⟩ := atI_dv (Dvs.ofInts (K := X.K) (F := F) ns) e1
      exact ix_list value slice pins s σ H _ _ v u Q I rx ry ⟨p, _, i, w, rfl, rfl, hp, h1, fin_d ex q h2⟩ hs
    | _ => exact nomatch (show (none : Option T) = some t from e)
  | _ => cases d1 <;> exact nomatch (show (none : Option T) = some t from e)
theorem cut_dv {vs : List V} {xs : List D} (lo hi : Option Int) (h : Dvs K F vs xs) : Dvs K F (cutV vs lo hi) (cutD xs lo hi) := by
  unfold cutV cutD
  rw [h.len]
  exact (h.drop _).take _
/-- a slice by values -/
def rCut (K : PySem.W.Frag) : V → Option Int → Option Int → Hp → VK → Prop := fun x lo hi H Q => ∃ F d t, Ex F H ∧ Rv K F H x d ∧
  ((∃ xs, d = .lst xs ∧ t = .fr (cutD xs lo hi)) ∨ (∃ ns, d = .scr ns ∧ t = .fr (cutD (ns.map .int) lo hi)) ∨ ∃ xs, d = .tup xs ∧ t = .d (.tup (cutD xs lo hi))) ∧ ∀ F' H' v, Nw F H F' H' → RT K F' H' H v t → Q v H'
theorem cut_whole {vs : List V} {lo hi : Option Int} (h : HT.sIx vs.length 0 lo = 0 ∧ HT.sIx vs.length vs.length hi = vs.length) : cutV vs lo hi = vs := by
  unfold cutV
  rw [h.1, h.2]
  simp
theorem cut_wholeD {vs : List D} {lo hi : Option Int} (h : HT.sIx vs.length 0 lo = 0 ∧ HT.sIx vs.length vs.length hi = vs.length) : cutD vs lo hi = vs := by
  unfold cutD
  rw [h.1, h.2]
  simp
theorem sl_ok : SlR X (rCut X.K) := by
  intro pins s σ H x v vl vu lo hi sl Q I rx hs pl pu ⟨F, d, t, ex, rv, h, q⟩
  rcases h with ⟨xs, rfl, rfl⟩ | ⟨ns, rfl, rfl⟩ | ⟨xs, rfl, rfl⟩
  · obtain ⟨p, vs, rfl, hp, dp⟩ := rv.lst ex
    exact sl_list pins s σ H _ v vl vu lo hi sl Q I rx hs pl pu ⟨p, vs, rfl, .inl (.inl hp), fun r hr => fin_lst ex q hr (cut_dv lo hi dp)⟩
  · obtain ⟨p, rfl, hp⟩ := rv.scr ex
    exact sl_list pins s σ H _ v vl vu lo hi sl Q I rx hs pl pu ⟨p, _, rfl, hp, fun r hr => fin_lst ex q hr (cut_dv lo hi (Dvs.ofInts ns))⟩
  · obtain ⟨p, vs, rfl, hp, hpF, dp⟩ := rv.tup ex
    exact sl_tupA pins s σ H _ v vl vu lo hi sl Q I rx hs pl pu ⟨p, vs, rfl, hp, fun z => by
      rw [dp.len] at z
      rw [cut_wholeD z] at q
      exact fin_d ex q (.tup hpF dp), fun _ r hr => fin_tup ex q hr (cut_dv lo hi dp)⟩
/-! ### calls of built-ins -/
theorem b_len : CallR X (.builtin "len") (rO X.K .len) := by
  intro pins s σ H xs us Q I r ⟨F, ds, t, ex, rv, e, q⟩
  match ds, rv, e with
  | [.lst ys], rv, e =>
    obtain ⟨x, rfl, rx⟩ := rv.one
    obtain ⟨p, vs, rfl, hp, dp⟩ := rx.lst ex
    cases iD_eq e
    exact call_len pins s σ H _ us Q I r ⟨.ref p, vs.length, rfl, .inl ⟨vs, .inl (.inl hp), rfl⟩, by rw [dp.len]; exact fin_int ex q⟩
  | [.tup ys], rv, e =>
    obtain ⟨x, rfl, rx⟩ := rv.one
    obtain ⟨p, vs, rfl, hp, _, dp⟩ := rx.tup ex
    cases iD_eq e
    exact call_len pins s σ H _ us Q I r ⟨.ref p, vs.length, rfl, .inr ⟨vs, hp, rfl⟩, by rw [dp.len]; exact fin_int ex q⟩
  | [.scr ns], rv, e =>
    obtain ⟨x, rfl, rx⟩ := rv.one
    obtain ⟨p, rfl, hp⟩ := rx.scr ex
    cases iD_eq e
    exact call_len pins s σ H _ us Q I r ⟨.ref p, (ns.map V.int).length, rfl, .inl ⟨_, hp, rfl⟩, by rw [List.length_map]; exact fin_int ex q⟩
  | [.str y], rv, e =>
    obtain ⟨x, rfl, rx⟩ := rv.one
    cases rx.str
    obtain ⟨hl, rfl⟩ := ite_eq (x := T.d (.int (y.length : Nat))) (show (if y.length ≤ line then iD y.length else none) = some t from e)
    exact call_len pins s σ H _ us Q I r ⟨.str y, y.length, rfl, ⟨by rw [line_eq]; exact hl, rfl⟩, fin_int ex q⟩
theorem b_abs : CallR X (.builtin "abs") (rO X.K .abs) := by
  intro pins s σ H xs us Q I r ⟨F, ds, t, ex, rv, e, q⟩
  match ds, rv, e with
  | [.int a], rv, e =>
    obtain ⟨x, rfl, rx⟩ := rv.one
    cases rx.int
    cases iD_eq e
    exact call_abs pins s σ H _ us Q I r ⟨a, rfl, fin_int ex q⟩
theorem b_int : CallR X (.type "int") (rO X.K .toInt) := by
  intro pins s σ H xs us Q I r ⟨F, ds, t, ex, rv, e, q⟩
  match ds, rv, e with
  | [.int a], rv, e =>
    obtain ⟨x, rfl, rx⟩ := rv.one
    cases rx.int
    cases iD_eq e
    exact call_int1 pins s σ H _ us Q I r (.inl ⟨a, rfl, fin_int ex q⟩)
  | [.bl a], rv, e =>
    obtain ⟨x, rfl, rx⟩ := rv.one
    cases rx.bl
    cases iD_eq e
    exact call_int1 pins s σ H _ us Q I r (.inr ⟨a, rfl, fin_int ex q⟩)
theorem b_max2 (hc : X.calm = true) : CallR X (.builtin "max") (rO X.K .max2) := by
  intro pins s σ H xs us Q I r ⟨F, ds, t, ex, rv, e, q⟩
  match ds, rv, e with
  | [.int a, .int b], rv, e =>
    obtain ⟨x, y, rfl, rx, ry⟩ := rv.two
    cases rx.int; cases ry.int
    cases iD_eq e
    exact call_max2 hc pins s σ H _ us Q I r ⟨a, b, rfl, fin_int ex q⟩
theorem b_min2 (hc : X.calm = true) : CallR X (.builtin "min") (rO X.K .min2) := by
  intro pins s σ H xs us Q I r ⟨F, ds, t, ex, rv, e, q⟩
  match ds, rv, e with
  | [.int a, .int b], rv, e =>
    obtain ⟨x, y, rfl, rx, ry⟩ := rv.two
    cases rx.int; cases ry.int
    cases iD_eq e
    exact call_min2 hc pins s σ H _ us Q I r ⟨a, b, rfl, fin_int ex q⟩
theorem b_all (hc : X.calm = true) : CallR X (.builtin "all") (rO X.K .all) := by
  intro pins s σ H xs us Q I r ⟨F, ds, t, ex, rv, e, q⟩
  match ds, rv, e with
  | [.lst ys], rv, e =>
    obtain ⟨x, rfl, rx⟩ := rv.one
    obtain ⟨p, vs, rfl, hp, dp⟩ := rx.lst ex
    obtain ⟨bs, e1, e2⟩ := Option.bind_eq_some_iff.mp (show (boolsD ys).bind (fun bs => bD (bs.all id)) = some t from e)
    cases bD_eq e2
    exact cr_all hc pins s σ H _ us Q I r ⟨p, bs, rfl, by rw [← dp.bools e1]; exact .inl (.inl hp), fin_bl ex q⟩
theorem b_any (hc : X.calm = true) : CallR X (.builtin "any") (rO X.K .any) := by
  intro pins s σ H xs us Q I r ⟨F, ds, t, ex, rv, e, q⟩
  match ds, rv, e with
  | [.lst ys], rv, e =>
    obtain ⟨x, rfl, rx⟩ := rv.one
    obtain ⟨p, vs, rfl, hp, dp⟩ := rx.lst ex
    obtain ⟨bs, e1, e2⟩ := Option.bind_eq_some_iff.mp (show (boolsD ys).bind (fun bs => bD (bs.any id)) = some t from e)
    cases bD_eq e2
    exact cr_any hc pins s σ H _ us Q I r ⟨p, bs, rfl, by rw [← dp.bools e1]; exact .inl (.inl hp), fin_bl ex q⟩
theorem sumT_raw {prog : Program} {w : World} {A : Around} {E : Value → Shared → Prop} {s : Shared} {l : Addr} {its : List Value} {ns : List Int} {Q : Value → Shared → Prop} (hh : A.handled = none) (hl : s.heap.IsTuple l its.toArray) (hi : IntsAre its ns)
    (h : ∀ h' tk t', (∀ b o, s.heap.get? b = some o → h'.get? b = some o) → Q (.int ns.sum t') { s with heap := h', toks := tk }) : wpAny (model prog w) A (call (.builtin "sum") [.ref l]) Q E s := by
  obtain ⟨xs, e⟩ := hi.allInts.items
  have hn : numsOf (intItems xs).toList = ns := by rw [← e]; exact hi.numsOf
  rw [nums_intItems] at hn
  rw [e] at hl
  have hlt : l < s.heap.objs.size := by obtain ⟨_, q, _⟩ := hl; exact Heap.lt_size q
  refine call_sum_walkG (wpAny_pyIter_tuple hl ?_)
  refine ⟨_, _, _, _, _, _, numAt xs, rfl, Walks.tuple (A := A.in1) hh _ l (Nat.ne_of_lt hlt) (intItems xs), ⟨⟨_, Heap.get?_push_size _ rfl, rfl, rfl⟩, hl.at fun o q => Heap.get?_push_of_some _ q⟩, fun b hb => ?_, (fun _ _ => intItems_at), fun h' tk t' hk => ?_⟩
  · show b < (s.heap.push _).objs.size
    rw [Heap.size_push]
    rcases List.mem_cons.mp hb with rfl | hb
    · exact Nat.lt_succ_self _
    · rw [List.mem_singleton.mp hb]; exact Nat.lt_succ_of_lt hlt
  · have := h h' tk t' (fun b o q => hk b o (fun hm => by rw [List.mem_singleton.mp hm] at q; exact Nat.lt_irrefl _ (Heap.lt_size q)) (Heap.get?_push_of_some _ q))
    rw [← hn] at this
    have e2 : preSum (numAt xs) (intItems xs).size = (xs.toList.map (·.1)).sum := by
      rw [show (intItems xs).size = xs.size by simp [intItems], preSum_eq, List.take_of_length_le (by simp)]
    rw [e2]; exact this
theorem b_sum (hc : X.calm = true) : CallR X (.builtin "sum") (rO X.K .sum) := by
  intro pins s σ H xs us Q I r ⟨F, ds, t, ex, rv, e, q⟩
  match ds, rv, e with
  | [.lst ys], rv, e =>
    obtain ⟨x, rfl, rx⟩ := rv.one
    obtain ⟨p, vs, rfl, hp, dp⟩ := rx.lst ex
    obtain ⟨ns, e1, e2⟩ := Option.bind_eq_some_iff.mp (show (intsD ys).bind (fun ns => iD ns.sum) = some t from e)
    cases iD_eq e2
    exact cr_sum hc pins s σ H _ us Q I r ⟨p, ns, rfl, by rw [← (dp.ints e1).1]; exact .inl (.inl hp), fin_int ex q⟩
  | [.tup ys], rv, e =>
    obtain ⟨x, rfl, rx⟩ := rv.one
    obtain ⟨p, vs, rfl, hp, hpF, dp⟩ := rx.tup ex
    obtain ⟨ns, e1, e2⟩ := Option.bind_eq_some_iff.mp (show (intsD ys).bind (fun ns => iD ns.sum) = some t from e)
    cases iD_eq e2
    rw [(dp.ints e1).1] at hp
    obtain ⟨its, rv', hl, _⟩ := I.tuple hp
    rw [Vals.ref1 r]
    exact sumT_raw (I.ok.hd hc) hl rv'.ints fun h' tk t' hk => ⟨.int _, H, I.kept hk, ⟨_, rfl⟩, fin_int ex q⟩
theorem fold_max : ∀ (r : List Int) (n : Int), r.foldl (fun a b => if b > a then b else a) n ∈ n :: r ∧ ∀ y ∈ n :: r, y ≤ r.foldl (fun a b => if b > a then b else a) n
  | [], n => ⟨List.mem_cons_self .., fun y hy => by simp at hy; simp [hy]⟩
  | b :: r, n => by
    obtain ⟨h1, h2⟩ := fold_max r (if b > n then b else n)
    have e : (b :: r).foldl (fun a b => if b > a then b else a) n = r.foldl (fun a b => if b > a then b else a) (if b > n then b else n) := rfl
    rw [e]
    refine ⟨?_, fun y hy => ?_⟩
    · rcases List.mem_cons.mp h1 with z | z
      · rw [z]; split <;> simp
      · exact List.mem_cons_of_mem _ (List.mem_cons_of_mem _ z)
    · have h3 := h2 (if b > n then b else n) (List.mem_cons_self ..)
      rcases List.mem_cons.mp hy with z | z
      · subst z
        by_cases hb : b > y
        · rw [if_pos hb] at h3 ⊢; omega
        · rw [if_neg hb] at h3 ⊢; omega
      · rcases List.mem_cons.mp z with z | z
        · subst z
          by_cases hb : y > n
          · rw [if_pos hb] at h3 ⊢; omega
          · rw [if_neg hb] at h3 ⊢; omega
        · exact h2 y (List.mem_cons_of_mem _ z)
theorem fold_min : ∀ (r : List Int) (n : Int), r.foldl (fun a b => if b < a then b else a) n ∈ n :: r ∧ ∀ y ∈ n :: r, r.foldl (fun a b => if b < a then b else a) n ≤ y
  | [], n => ⟨List.mem_cons_self .., fun y hy => by simp at hy; simp [hy]⟩
  | b :: r, n => by
    obtain ⟨h1, h2⟩ := fold_min r (if b < n then b else n)
    have e : (b :: r).foldl (fun a b => if b < a then b else a) n = r.foldl (fun a b => if b < a then b else a) (if b < n then b else n) := rfl
    rw [e]
    refine ⟨?_, fun y hy => ?_⟩
    · rcases List.mem_cons.mp h1 with z | z
      · rw [z]; split <;> simp
      · exact List.mem_cons_of_mem _ (List.mem_cons_of_mem _ z)
    · have h3 := h2 (if b < n then b else n) (List.mem_cons_self ..)
      rcases List.mem_cons.mp hy with z | z
      · subst z
        by_cases hb : b < y
        · rw [if_pos hb] at h3 ⊢; omega
        · rw [if_neg hb] at h3 ⊢; omega
      · rcases List.mem_cons.mp z with z | z
        · subst z
          by_cases hb : y < n
          · rw [if_pos hb] at h3 ⊢; omega
          · rw [if_neg hb] at h3 ⊢; omega
        · exact h2 y (List.mem_cons_of_mem _ z)
theorem maxT_raw {prog : Program} {w : World} {A : Around} {E : Value → Shared → Prop} {s : Shared} {l : Addr} {its : List Value} {ns : List Int} {Q : Value → Shared → Prop} (hh : A.handled = none) (hl : s.heap.IsTuple l its.toArray) (hi : IntsAre its ns) (hne : 0 < ns.length)
    (h : ∀ h' tk M t', (∀ b o, s.heap.get? b = some o → h'.get? b = some o) → M ∈ ns → (∀ a, a ∈ ns → a ≤ M) → Q (.int M t') { s with heap := h', toks := tk }) : wpAny (model prog w) A (call (.builtin "max") [.ref l]) Q E s := by
  obtain ⟨xs, e⟩ := hi.allInts.items
  have hn : numsOf (intItems xs).toList = ns := by rw [← e]; exact hi.numsOf
  rw [nums_intItems] at hn
  subst hn
  rw [e] at hl
  have hsz : 0 < xs.size := by simpa using hne
  have hlt : l < s.heap.objs.size := by obtain ⟨_, q, _⟩ := hl; exact Heap.lt_size q
  refine call_max_walk (wpAny_pyIter_tuple hl ?_)
  refine ⟨_, _, _, _, _, _, _, rfl, Walks.tuple (A := A.in1) hh _ l (Nat.ne_of_lt hlt) (intItems xs), ⟨⟨_, Heap.get?_push_size _ rfl, rfl, rfl⟩, hl.at fun o q => Heap.get?_push_of_some _ q⟩, fun b hb => ?_, by simpa [intItems] using hsz, CmpOf.ints_gt (numAt xs) (fun _ _ => intItems_at), fun v h' tk hP hk => ?_⟩
  · show b < (s.heap.push _).objs.size
    rw [Heap.size_push]
    rcases List.mem_cons.mp hb with rfl | hb
    · exact Nat.lt_succ_self _
    · rw [List.mem_singleton.mp hb]; exact Nat.lt_succ_of_lt hlt
  · have hv : (intItems xs)[argBest (fun i j => decide (numAt xs i > numAt xs j)) (xs.size - 1)]? = some v := by simpa [intItems] using hP
    obtain ⟨t, rfl⟩ := intItems_at hv
    obtain ⟨h1, h2⟩ := argBest_gt (numAt xs) (xs.size - 1)
    refine h h' tk _ t (fun b o q => hk b o (fun hm => by rw [List.mem_singleton.mp hm] at q; exact Nat.lt_irrefl _ (Heap.lt_size q)) (Heap.get?_push_of_some _ q)) ?_ fun a ha => ?_
    · rw [numAt_eq]; exact PySem.getD_mem (by rw [List.length_map, Array.length_toList]; omega)
    · obtain ⟨j, hj, rfl⟩ := mem_getD ha
      rw [List.length_map, Array.length_toList] at hj
      rw [← numAt_eq]; exact h2 j (by omega)
theorem b_maxL (hc : X.calm = true) : CallR X (.builtin "max") (rO X.K .maxL) := by
  intro pins s σ H xs us Q I r ⟨F, ds, t, ex, rv, e, q⟩
  match ds, rv, e with
  | [.lst ys], rv, e =>
    obtain ⟨x, rfl, rx⟩ := rv.one
    obtain ⟨p, vs, rfl, hp, dp⟩ := rx.lst ex
    obtain ⟨ns, e1, e2⟩ := Option.bind_eq_some_iff.mp (show (intsD ys).bind (fun ns => match ns with
      | [] => none
      | n :: r => iD (r.foldl (fun a b => if b > a then b else a) n)) = some t from e)
    cases ns with
    | nil => cases e2
    | cons n r0 =>
      cases iD_eq e2
      obtain ⟨m1, m2⟩ := fold_max r0 n
      refine cr_max hc pins s σ H _ us Q I r ⟨p, n :: r0, rfl, by rw [← (dp.ints e1).1]; exact .inl (.inl hp), Nat.succ_pos _, fun m h1 h2 => ?_⟩
      have : m = r0.foldl (fun a b => if b > a then b else a) n := Int.le_antisymm (m2 m h1) (h2 _ m1)
      rw [this]; exact fin_int ex q
  | [.tup ys], rv, e =>
    obtain ⟨x, rfl, rx⟩ := rv.one
    obtain ⟨p, vs, rfl, hp, hpF, dp⟩ := rx.tup ex
    obtain ⟨ns, e1, e2⟩ := Option.bind_eq_some_iff.mp (show (intsD ys).bind (fun ns => match ns with
      | [] => none
      | n :: r => iD (r.foldl (fun a b => if b > a then b else a) n)) = some t from e)
    cases ns with
    | nil => cases e2
    | cons n r0 =>
      cases iD_eq e2
      obtain ⟨m1, m2⟩ := fold_max r0 n
      rw [(dp.ints e1).1] at hp
      obtain ⟨its, rv', hl, _⟩ := I.tuple hp
      rw [Vals.ref1 r]
      refine maxT_raw (I.ok.hd hc) hl rv'.ints (Nat.succ_pos _) fun h' tk m t' hk h1 h2 => ⟨.int _, H, I.kept hk, ⟨_, rfl⟩, ?_⟩
      have : m = r0.foldl (fun a b => if b > a then b else a) n := Int.le_antisymm (m2 m h1) (h2 _ m1)
      rw [this]; exact fin_int ex q
theorem minT_raw {prog : Program} {w : World} {A : Around} {E : Value → Shared → Prop} {s : Shared} {l : Addr} {its : List Value} {ns : List Int} {Q : Value → Shared → Prop} (hh : A.handled = none) (hl : s.heap.IsTuple l its.toArray) (hi : IntsAre its ns) (hne : 0 < ns.length)
    (h : ∀ h' tk M t', (∀ b o, s.heap.get? b = some o → h'.get? b = some o) → M ∈ ns → (∀ a, a ∈ ns → M ≤ a) → Q (.int M t') { s with heap := h', toks := tk }) : wpAny (model prog w) A (call (.builtin "min") [.ref l]) Q E s := by
  obtain ⟨xs, e⟩ := hi.allInts.items
  have hn : numsOf (intItems xs).toList = ns := by rw [← e]; exact hi.numsOf
  rw [nums_intItems] at hn
  subst hn
  rw [e] at hl
  have hsz : 0 < xs.size := by simpa using hne
  have hlt : l < s.heap.objs.size := by obtain ⟨_, q, _⟩ := hl; exact Heap.lt_size q
  refine call_min_walk (wpAny_pyIter_tuple hl ?_)
  refine ⟨_, _, _, _, _, _, _, rfl, Walks.tuple (A := A.in1) hh _ l (Nat.ne_of_lt hlt) (intItems xs), ⟨⟨_, Heap.get?_push_size _ rfl, rfl, rfl⟩, hl.at fun o q => Heap.get?_push_of_some _ q⟩, fun b hb => ?_, by simpa [intItems] using hsz, CmpOf.ints_lt (numAt xs) (fun _ _ => intItems_at), fun v h' tk hP hk => ?_⟩
  · show b < (s.heap.push _).objs.size
    rw [Heap.size_push]
    rcases List.mem_cons.mp hb with rfl | hb
    · exact Nat.lt_succ_self _
    · rw [List.mem_singleton.mp hb]; exact Nat.lt_succ_of_lt hlt
  · have hv : (intItems xs)[argBest (fun i j => decide (numAt xs i < numAt xs j)) (xs.size - 1)]? = some v := by simpa [intItems] using hP
    obtain ⟨t, rfl⟩ := intItems_at hv
    obtain ⟨h1, h2⟩ := argBest_lt (numAt xs) (xs.size - 1)
    refine h h' tk _ t (fun b o q => hk b o (fun hm => by rw [List.mem_singleton.mp hm] at q; exact Nat.lt_irrefl _ (Heap.lt_size q)) (Heap.get?_push_of_some _ q)) ?_ fun a ha => ?_
    · rw [numAt_eq]; exact PySem.getD_mem (by rw [List.length_map, Array.length_toList]; omega)
    · obtain ⟨j, hj, rfl⟩ := mem_getD ha
      rw [List.length_map, Array.length_toList] at hj
      rw [← numAt_eq]; exact h2 j (by omega)
theorem b_minL (hc : X.calm = true) : CallR X (.builtin "min") (rO X.K .minL) := by
  intro pins s σ H xs us Q I r ⟨F, ds, t, ex, rv, e, q⟩
  match ds, rv, e with
  | [.lst ys], rv, e =>
    obtain ⟨x, rfl, rx⟩ := rv.one
    obtain ⟨p, vs, rfl, hp, dp⟩ := rx.lst ex
    obtain ⟨ns, e1, e2⟩ := Option.bind_eq_some_iff.mp (show (intsD ys).bind (fun ns => match ns with
      | [] => none
      | n :: r => iD (r.foldl (fun a b => if b < a then b else a) n)) = some t from e)
    cases ns with
    | nil => cases e2
    | cons n r0 =>
      cases iD_eq e2
      obtain ⟨m1, m2⟩ := fold_min r0 n
      refine cr_min hc pins s σ H _ us Q I r ⟨p, n :: r0, rfl, by rw [← (dp.ints e1).1]; exact .inl (.inl hp), Nat.succ_pos _, fun m h1 h2 => ?_⟩
      have : m = r0.foldl (fun a b => if b < a then b else a) n := Int.le_antisymm (h2 _ m1) (m2 m h1)
      rw [this]; exact fin_int ex q
  | [.tup ys], rv, e =>
    obtain ⟨x, rfl, rx⟩ := rv.one
    obtain ⟨p, vs, rfl, hp, hpF, dp⟩ := rx.tup ex
    obtain ⟨ns, e1, e2⟩ := Option.bind_eq_some_iff.mp (show (intsD ys).bind (fun ns => match ns with
      | [] => none
      | n :: r => iD (r.foldl (fun a b => if b < a then b else a) n)) = some t from e)
    cases ns with
    | nil => cases e2
    | cons n r0 =>
      cases iD_eq e2
      obtain ⟨m1, m2⟩ := fold_min r0 n
      rw [(dp.ints e1).1] at hp
      obtain ⟨its, rv', hl, _⟩ := I.tuple hp
      rw [Vals.ref1 r]
      refine minT_raw (I.ok.hd hc) hl rv'.ints (Nat.succ_pos _) fun h' tk m t' hk h1 h2 => ⟨.int _, H, I.kept hk, ⟨_, rfl⟩, ?_⟩
      have : m = r0.foldl (fun a b => if b < a then b else a) n := Int.le_antisymm (h2 _ m1) (m2 m h1)
      rw [this]; exact fin_int ex q
theorem b_tuple : CallR X (.type "tuple") (rO X.K .tuple) := by
  intro pins s σ H xs us Q I r ⟨F, ds, t, ex, rv, e, q⟩
  match ds, rv, e with
  | [.lst ys], rv, e =>
    obtain ⟨x, rfl, rx⟩ := rv.one
    obtain ⟨p, vs, rfl, hp, dp⟩ := rx.lst ex
    cases (Option.some.inj (show some (T.d (.tup ys)) = some t from e)).symm
    exact call_tuple_of pins s σ H _ us Q I r ⟨p, vs, rfl, .inl ⟨.inl (.inl hp), fun l hl => fin_tup ex q hl dp⟩⟩
  | [.tup ys], rv, e =>
    obtain ⟨x, rfl, rx⟩ := rv.one
    obtain ⟨p, vs, rfl, hp, hpF, dp⟩ := rx.tup ex
    cases (Option.some.inj (show some (T.d (.tup ys)) = some t from e)).symm
    exact call_tuple_of pins s σ H _ us Q I r ⟨p, vs, rfl, .inr ⟨hp, fin_d ex q (.tup hpF dp)⟩⟩
theorem b_list : CallR X (.type "list") (rO X.K .list) := by
  intro pins s σ H xs us Q I r ⟨F, ds, t, ex, rv, e, q⟩
  match ds, rv, e with
  | [.lst ys], rv, e =>
    obtain ⟨x, rfl, rx⟩ := rv.one
    obtain ⟨p, vs, rfl, hp, dp⟩ := rx.lst ex
    cases (Option.some.inj (show some (T.fr ys) = some t from e)).symm
    exact call_list_of pins s σ H _ us Q I r ⟨p, vs, rfl, .inl (.inl (.inl hp)), fun l hl => fin_lst ex q hl dp⟩
  | [.tup ys], rv, e =>
    obtain ⟨x, rfl, rx⟩ := rv.one
    obtain ⟨p, vs, rfl, hp, hpF, dp⟩ := rx.tup ex
    cases (Option.some.inj (show some (T.fr ys) = some t from e)).symm
    exact call_list_of pins s σ H _ us Q I r ⟨p, vs, rfl, .inr hp, fun l hl => fin_lst ex q hl dp⟩
theorem insI_perm (x : Int) : ∀ r : List Int, (insI x r).Perm (x :: r)
  | [] => .refl _
  | y :: r => by
    unfold insI
    split
    · exact .refl _
    · exact ((insI_perm x r).cons y).trans (.swap x y r)
theorem sortI_perm : ∀ r : List Int, (sortI r).Perm r
  | [] => .refl _
  | x :: r => (insI_perm x (sortI r)).trans ((sortI_perm r).cons x)
theorem insI_sorted (x : Int) : ∀ r : List Int, r.Pairwise (· ≤ ·) → (insI x r).Pairwise (· ≤ ·)
  | [], _ => by simp [insI]
  | y :: r, h => by
    unfold insI
    obtain ⟨h1, h2⟩ := List.pairwise_cons.mp h
    split
    · rename_i hx
      exact List.pairwise_cons.mpr ⟨fun z hz => by
        rcases List.mem_cons.mp hz with e | e
        · omega
        · have := h1 z e; omega, h⟩
    · rename_i hx
      exact List.pairwise_cons.mpr ⟨fun z hz => by
        rcases List.mem_cons.mp ((insI_perm x r).mem_iff.mp hz) with e | e
        · omega
        · exact h1 z e, insI_sorted x r h2⟩
theorem sortI_sorted : ∀ r : List Int, (sortI r).Pairwise (· ≤ ·)
  | [] => .nil
  | x :: r => insI_sorted x _ (sortI_sorted r)
theorem b_sorted : CallR X (.builtin "sorted") (rO X.K .sorted) := by
  intro pins s σ H xs us Q I r ⟨F, ds, t, ex, rv, e, q⟩
  match ds, rv, e with
  | [.lst ys], rv, e =>
    obtain ⟨x, rfl, rx⟩ := rv.one
    obtain ⟨p, vs, rfl, hp, dp⟩ := rx.lst ex
    obtain ⟨ns, e1, e2⟩ := Option.bind_eq_some_iff.mp (show (intsD ys).bind (fun ns => if ns.length < 64 then some (T.fr ((sortI ns).map .int)) else none) = some t from e)
    obtain ⟨h64, rfl⟩ := ite_eq e2
    refine cr_sorted pins s σ H _ us Q I r ⟨p, ns, rfl, by rw [← (dp.ints e1).1]; exact .inl (.inl hp), h64, fun ns' l p1 p2 hl => ?_⟩
    have : ns' = sortI ns := PySem.W.ksm_same (p1.trans (sortI_perm ns).symm) p2 (sortI_sorted ns)
    rw [this]
    exact fin_lst ex q hl (Dvs.ofInts _)
theorem b_gcd : CallR X (.builtin "math.gcd") (rO X.K .gcd) := by
  intro pins s σ H xs us Q I r ⟨F, ds, t, ex, rv, e, q⟩
  match ds, rv, e with
  | [.int a, .int b], rv, e =>
    obtain ⟨x, y, rfl, rx, ry⟩ := rv.two
    cases rx.int; cases ry.int
    cases iD_eq e
    exact cr_gcd pins s σ H _ us Q I r ⟨a, b, rfl, fin_int ex q⟩
theorem b_divmod : CallR X (.builtin "divmod") (rO X.K .divmod) := by
  intro pins s σ H xs us Q I r ⟨F, ds, t, ex, rv, e, q⟩
  match ds, rv, e with
  | [.int a, .int b], rv, e =>
    obtain ⟨x, y, rfl, rx, ry⟩ := rv.two
    cases rx.int; cases ry.int
    obtain ⟨hd, rfl⟩ := ite_eq (show (if 0 < b ∧ b < 1073741824 then some (T.d (.tup [.int (a / b), .int (a % b)])) else none) = some t from e)
    exact call_divmod pins s σ H _ us Q I r ⟨a, b, rfl, hd, fun l hl => fin_tup ex q hl (.cons (.int _) (.cons (.int _) .nil))⟩
/-! ### repr -/
mutual
theorem wee_ok : ∀ (d : D) (n : Nat), sh n d = true → wee d = true → (toPy d).showable = true ∧ (toPy d).shown.length ≤ wt d ∧ (toPy d).hasDict = false
  | .non, _, _, _ => ⟨by simp [toPy, PyData.showable], by rw [toPy, wt]; decide, by simp [toPy, PyData.hasDict]⟩
  | .bl b, _, _, _ => ⟨by simp [toPy, PyData.showable], by rw [toPy, wt]; cases b <;> decide, by simp [toPy, PyData.hasDict]⟩
  | .int i, _, _, h => by
    have hl : i.natAbs.log2 + 1 ≤ 1900 := by simpa [wee] using h
    refine ⟨by simp [toPy, PyData.showable]; omega, ?_, by simp [toPy, PyData.hasDict]⟩
    have e := int_text_length_le (a := i) (k := 1900) (by decide) (by omega)
    rw [toPy, wt, PyData.shown]
    show (Str.ofString (toString i)).length ≤ _
    rw [PySem.ofString_length]; omega
  | .str x, _, _, h => by
    have hx : ∀ c ∈ x.cps.toList, c < 16 ^ 8 := fun c hc => by
      have h1 : (x.cps.all fun c => Nat.blt c 1114112) = true := by simpa [wee] using h
      obtain ⟨i, hi, e⟩ := List.getElem_of_mem hc
      have h2 := (Array.all_eq_true.mp h1) i (by simpa using hi)
      have h3 : Nat.blt c 1114112 = true := by rw [← e]; simpa using h2
      have h4 : c + 1 ≤ 1114112 := Nat.ble_eq.mp h3
      omega
    have e := StrLaws.reprText_len x hx
    refine ⟨by simp [toPy, PyData.showable], ?_, by simp [toPy, PyData.hasDict]⟩
    rw [toPy, wt, PyData.shown]
    exact e
  | .fn _, _, h, _ => by simp [sh] at h
  | .scr _, _, h, _ => by simp [sh] at h
  | .tup xs, 0, h, _ => by simp [sh] at h
  | .lst xs, 0, h, _ => by simp [sh] at h
  | .tup xs, n + 1, h, h' => by
    obtain ⟨h1, h2, h3⟩ := wees_ok xs n (by simpa [sh] using h) (by simpa [wee] using h')
    have h4 := tupleText_len_le (PyData.shownAll (toPys xs))
    have h5 := PyData.shownAll_length (toPys xs)
    refine ⟨by simpa [toPy, PyData.showable] using h1, ?_, by simpa [toPy, PyData.hasDict] using h3⟩
    rw [toPy, wt, PyData.shown]; omega
  | .lst xs, n + 1, h, h' => by
    obtain ⟨h1, h2, h3⟩ := wees_ok xs n (by simpa [sh] using h) (by simpa [wee] using h')
    have h4 := listText_len_le (PyData.shownAll (toPys xs))
    have h5 := PyData.shownAll_length (toPys xs)
    refine ⟨by simpa [toPy, PyData.showable] using h1, ?_, by simpa [toPy, PyData.hasDict] using h3⟩
    rw [toPy, wt, PyData.shown]; omega
theorem wees_ok : ∀ (d : List D) (n : Nat), shs n d = true → wees d = true → PyData.showableAll (toPys d) = true ∧ ((PyData.shownAll (toPys d)).map (·.length)).sum + 2 * (toPys d).length ≤ wts d ∧ PyData.hasDictAll (toPys d) = false
  | [], _, _, _ => by simp [toPys, PyData.showableAll, PyData.shownAll, PyData.hasDictAll, wts]
  | x :: xs, n, h, h' => by
    rw [shs, Bool.and_eq_true] at h
    rw [wees, Bool.and_eq_true] at h'
    obtain ⟨h1, h2, h3⟩ := wee_ok x n h.1 h'.1
    obtain ⟨h4, h5, h6⟩ := wees_ok xs n h.2 h'.2
    refine ⟨by simp [toPys, PyData.showableAll, h1, h4], ?_, by simp [toPys, PyData.hasDictAll, h3, h6]⟩
    simp only [toPys, PyData.shownAll, List.map_cons, List.sum_cons, List.length_cons, wts]
    omega
end
theorem b_repr (hg : X.A.guards = some []) (hu : X.A.units + 65 < cLine) : CallR X (.builtin "repr") (rO X.K .repr) := by
  intro pins s σ H xs us Q I r ⟨F, ds, t, ex, rv, e, q⟩
  match ds, rv, e with
  | [d], rv, e =>
    obtain ⟨x, rfl, rx⟩ := rv.one
    obtain ⟨hc, rfl⟩ := ite_eq (show (if (sh 60 d && wee d && Nat.ble (wt d) 16000000) = true then some (T.d (.str (toPy d).shown)) else none) = some t from e)
    simp only [Bool.and_eq_true] at hc
    obtain ⟨⟨h1, h2⟩, h3⟩ := hc
    obtain ⟨w1, w2, w3⟩ := wee_ok d 60 h1 h2
    have hz : (toPy d).shown.length ≤ sizeLine := by
      have := Nat.ble_eq.mp h3
      rw [sizeLine_eq]; omega
    obtain ⟨u, rfl, ru⟩ := vals1 r
    have hp := (rx.dv ex).py _ _ _ h1
    obtain ⟨as, rd⟩ := Dp.reads I _ x u hp ru
    obtain ⟨l1, l2⟩ := py_lay d 60 h1
    have dv := rx.dv ex
    have fin : ∀ tk, EP X pins σ Q (.str (toPy d).shown tk) { s with toks := s.toks + 1 } := fun tk => ⟨.str _, H, I.tok _, ⟨_, rfl⟩, fin_str ex q⟩
    cases dv with
    | non => cases ru; exact PySem.P.repr_of_none (fin _)
    | bl b => cases ru; exact PySem.P.repr_of_bool (by have := fin s.toks; rw [toPy, PyData.shown] at this; exact this)
    | int i =>
      obtain ⟨t, rfl⟩ := ru
      have hl : i.natAbs.log2 + 1 ≤ 1900 := by simpa [wee] using h2
      exact PySem.P.repr_of_int (by omega) (by have := fin s.toks; rw [toPy, PyData.shown] at this; exact this)
    | str y =>
      obtain ⟨t, rfl⟩ := ru
      rw [toPy, PyData.shown] at hz
      exact PySem.P.repr_of_str (by have := fin s.toks; rw [toPy, PyData.shown] at this; exact this) hz
    | lst hs ht =>
      cases ru
      exact repr_of_reads' rd w1 (PyData.noDict_hsm w3) hg (by omega) (fun _ _ e => e) (fun h' u tk hk => ⟨.str _, H, I.kept hk, ⟨_, rfl⟩, fin_str ex q⟩) hz
    | tup hs ht =>
      cases ru
      exact repr_of_reads' rd w1 (PyData.noDict_hsm w3) hg (by omega) (fun _ _ e => e) (fun h' u tk hk => ⟨.str _, H, I.kept hk, ⟨_, rfl⟩, fin_str ex q⟩) hz
    | scr hs => simp [sh] at h1
end
end Ev

/-! Ev, part E: readings of expressions. -/
namespace Ev
open PySem PySem.Spec PyProof.Rows L2
section
variable (K : PySem.W.Frag) (C : Sem0)
def tE (ir : E) : TE := fun σ H Q => ∃ F env ag env', SR K F H σ env ∧ evA C ir env = some (ag, env') ∧ ∀ F' H' v, Se K σ F H env F' H' env' → RA K σ F' H' env' H v ag → Q v H'
def tT (ir : E) : TT := fun σ H Q => ∃ F env ag env' k, SR K F H σ env ∧ evA C ir env = some (ag, env') ∧ boolA env' ag = some k ∧ ∀ F' H', Se K σ F H env F' H' env' → Q k H'
def tA (irs : List E) : TA := fun σ H Q => ∃ F env ags env', SR K F H σ env ∧ evAs C irs env = some (ags, env') ∧ ∀ F' H' vs, Se K σ F H env F' H' env' → RAs K σ F' H' env' H vs ags → Q vs H'
end
variable {K : PySem.W.Frag} {C : Sem0} {X : Cx} {F F' H H' F0 H0 : Hp} {σ : L2.St} {env env' env0 : En} {Q : VK}
theorem PE.imp {e : Expr} {t t' : TE} (h : PE X e t) (f : ∀ σ H Q, t' σ H Q → t σ H Q) : PE X e t' := ⟨fun pins s σ H Q I q => h.run pins s σ H Q I (f σ H Q q)⟩
theorem PT.imp {e : Expr} {t t' : TT} (h : PT X e t) (f : ∀ σ H Q, t' σ H Q → t σ H Q) : PT X e t' := ⟨fun pins s σ H Q I q => h.run pins s σ H Q I (f σ H Q q)⟩
theorem PW.imp {e : Expr} {t t' : TT} (h : PW X e t) (f : ∀ σ H Q, t' σ H Q → t σ H Q) : PW X e t' := ⟨fun wh pins s σ H Q I q => h.run wh pins s σ H Q I (f σ H Q q)⟩
theorem PA.imp {e : List Expr} {t t' : TA} (h : PA X e t) (f : ∀ σ H Q, t' σ H Q → t σ H Q) : PA X e t' := ⟨fun pos pins s σ H Q I q => h.run pos pins s σ H Q I (f σ H Q q)⟩
theorem PS.imp {e : Stmt} {t t' : TS} (h : PS X e t) (f : ∀ D σ H, t' D σ H → t D σ H) : PS X e t' := ⟨fun pins s σ H D I q => h.run pins s σ H D I (f D σ H q)⟩
theorem PSs.imp {e : List Stmt} {t t' : TS} (h : PSs X e t) (f : ∀ D σ H, t' D σ H → t D σ H) : PSs X e t' := ⟨fun pins s σ H D I q => h.run pins s σ H D I (f D σ H q)⟩
theorem PG.imp {e : Expr} {t t' : TG} (h : PG X e t) (f : ∀ v σ H Q, t' v σ H Q → t v σ H Q) : PG X e t' := ⟨fun pins s σ H v u Q I r q => h.run pins s σ H v u Q I r (f v σ H Q q)⟩
theorem PI.imp {tg e : Expr} {t t' : TI} (h : PI X tg e t) (f : ∀ σ H R, t' σ H R → t σ H R) : PI X tg e t' := ⟨fun pins s σ H R I q => h.run pins s σ H R I (f σ H R q)⟩
theorem bs {α β : Type} {x : Option α} {f : α → Option β} {b : β} (h : x.bind f = some b) : ∃ a, x = some a ∧ f a = some b := Option.bind_eq_some_iff.mp h
theorem boolA_ok (s : SR K F H σ env) {v : V} {a : Ag} {k : Bool} (h : RA K σ F H env H0 v a) (e : boolA env a = some k) : v = .bl k := by
  match a, h, e with
  | .v (.d (.bl b)), h, e => cases e; cases h; rfl
  | .r i, h, e =>
    have h' : σ[i]? = some (some v) := h
    cases q : env[i]? with
    | none => simp only [boolA, q] at e; cases e
    | some sl =>
      cases sl with
      | un => simp only [boolA, q] at e; cases e
      | own xs m => simp only [boolA, q] at e; cases e
      | d x =>
        obtain ⟨w, h1, h2⟩ := s.dd i _ q
        rw [h'] at h1; cases h1
        cases x with
        | bl b => simp only [boolA, q] at e; cases e; cases h2; rfl
        | _ => simp only [boolA, q] at e; cases e
theorem rO_of' {o : Op} {t : T} {ags : List Ag} {ds : List D} {vs : List V} (S : Se K σ F0 H0 env0 F H env) (r : RAs K σ F H env H0 vs ags) (e1 : rdAs env ags = some ds) (e2 : opF o ds = some t)
    (q : ∀ F' H' v, Se K σ F H env F' H' env → Se K σ F0 H0 env0 F' H' env → RA K σ F' H' env H0 v (.v t) → Q v H') : rO K o vs H Q :=
  ⟨F, ds, t, S.sr.fh, r.rd S.sr e1, e2, fun F' H' v n rt => q F' H' v (Se.nw S.sr n) (S.trans (Se.nw S.sr n)) (RA.of_RT S.sr n rt S.dom)⟩
/-- two expressions, one behind the other -/
theorem tE_two {ia ib : E} {p q : Ag × En} (s : SR K F H σ env) (e1 : evA C ia env = some p) (e2 : evA C ib p.2 = some q) {R : V → V → Hp → Prop}
    (h : ∀ F' H' v u, Se K σ F H env F' H' q.2 → RAs K σ F' H' q.2 H [v, u] [p.1, q.1] → R v u H') : tE K C ia σ H fun x H1 => tE K C ib σ H1 fun y H2 => R x y H2 := by
  refine ⟨F, env, p.1, p.2, s, e1, fun F1 H1 v S1 r1 => ⟨F1, p.2, q.1, q.2, S1.sr, e2, fun F2 H2 u S2 r2 => h F2 H2 v u (S1.trans S2) ?_⟩⟩
  exact .cons' r1 S2 (.cons r2 .nil fun _ _ z => by cases z) S1.dom
theorem evAs_two {ia ib : E} {ags : List Ag} (e : evAs C [ia, ib] env = some (ags, env')) : ∃ p q, evA C ia env = some p ∧ evA C ib p.2 = some q ∧ ags = [p.1, q.1] ∧ env' = q.2 := by
  simp only [evAs] at e
  obtain ⟨p, e1, e⟩ := bs e
  obtain ⟨r, e2, e⟩ := bs e
  obtain ⟨q, e3, e2⟩ := bs e2
  simp only [Option.bind_some] at e2
  cases e2
  cases e
  exact ⟨p, q, e1, e3, rfl, rfl⟩
theorem evAs_one {ia : E} {ags : List Ag} (e : evAs C [ia] env = some (ags, env')) : ∃ p, evA C ia env = some p ∧ ags = [p.1] ∧ env' = p.2 := by
  simp only [evAs] at e
  obtain ⟨p, e1, e⟩ := bs e
  simp only [Option.bind_some] at e
  cases e
  exact ⟨p, e1, rfl, rfl⟩
/-- what an operator's result is, behind its operands -/
theorem rO_of {o : Op} {t : T} {ags : List Ag} {ds : List D} {vs : List V} (S : Se K σ F0 H0 env0 F H env) (r : RAs K σ F H env H0 vs ags) (e1 : rdAs env ags = some ds) (e2 : opF o ds = some t)
    (q : ∀ F' H' v, Se K σ F0 H0 env0 F' H' env → RA K σ F' H' env H0 v (.v t) → Q v H') : rO K o vs H Q :=
  ⟨F, ds, t, S.sr.fh, r.rd S.sr e1, e2, fun F' H' v n rt => q F' H' v (S.trans (Se.nw S.sr n)) (RA.of_RT S.sr n rt S.dom)⟩
theorem t2_of {o : Op} {ia ib : E} (h : tE K C (.op o [ia, ib]) σ H Q) : tOp (r2 K o) (tE K C ia) (tE K C ib) σ H Q := by
  obtain ⟨F, env, ag, env', s, e, q⟩ := h
  simp only [evA] at e
  obtain ⟨p, e1, e⟩ := bs e
  obtain ⟨ds, e2, e⟩ := bs e
  obtain ⟨t, e3, e⟩ := bs e
  cases e
  obtain ⟨a, b, h1, h2, h3, h4⟩ := evAs_two (show evAs C [ia, ib] env = some (p.1, p.2) from e1)
  refine tE_two s h1 h2 fun F' H' v u S r => ?_
  rw [h3, h4] at e2
  exact rO_of S r e2 e3 fun F2 H2 w S2 r2 => q F2 H2 w (by rw [h4]; exact S2) (by rw [h4]; exact r2)
theorem t1_of {o : Op} {ia : E} (h : tE K C (.op o [ia]) σ H Q) : tUn (r1 K o) (tE K C ia) σ H Q := by
  obtain ⟨F, env, ag, env', s, e, q⟩ := h
  simp only [evA] at e
  obtain ⟨p, e1, e⟩ := bs e
  obtain ⟨ds, e2, e⟩ := bs e
  obtain ⟨t, e3, e⟩ := bs e
  cases e
  obtain ⟨a, h1, h3, h4⟩ := evAs_one (show evAs C [ia] env = some (p.1, p.2) from e1)
  refine ⟨F, env, a.1, a.2, s, h1, fun F' H' v S r => ?_⟩
  rw [h3, h4] at e2
  exact rO_of S (.cons r .nil fun _ _ z => by cases z) e2 e3 fun F2 H2 w S2 r2 => q F2 H2 w (by rw [h4]; exact S2) (by rw [h4]; exact r2)
theorem tB_of {o : Op} {irs : List E} (h : tE K C (.op o irs) σ H Q) : tCB (rO K o) (tA K C irs) σ H Q := by
  obtain ⟨F, env, ag, env', s, e, q⟩ := h
  simp only [evA] at e
  obtain ⟨p, e1, e⟩ := bs e
  obtain ⟨ds, e2, e⟩ := bs e
  obtain ⟨t, e3, e⟩ := bs e
  cases e
  exact ⟨F, env, p.1, p.2, s, e1, fun F' H' vs S r => rO_of S r e2 e3 fun F2 H2 w S2 r2 => q F2 H2 w S2 r2⟩
/-- an argument list -/
theorem pa_cons' {e : Expr} {es : List Expr} {ir : E} {irs : List E} (ha : PE X e (tE K C ir)) (hr : PA X es (tA K C irs)) (hs : starEach (e :: es) X.env = (false, eval e X.env) :: starEach es X.env) : PA X (e :: es) (tA K C (ir :: irs)) := by
  refine PA.imp (pa_cons ha hr hs) fun σ H Q ⟨F, env, ags, env', s, e, q⟩ => ?_
  simp only [evAs] at e
  obtain ⟨p, e1, e⟩ := bs e
  obtain ⟨r, e2, e⟩ := bs e
  cases e
  exact ⟨F, env, p.1, p.2, s, e1, fun F1 H1 v S1 r1 => ⟨F1, p.2, r.1, r.2, S1.sr, e2, fun F2 H2 vs S2 r2 => q F2 H2 (v :: vs) (S1.trans S2) (.cons' r1 S2 r2 S1.dom)⟩⟩
theorem pa_nil' : PA X [] (tA K C []) := PA.imp pa_nil fun σ H Q ⟨F, env, ags, env', s, e, q⟩ => by
  simp only [evAs] at e
  cases e
  exact q F H [] (Se.refl s) .nil
/-! ### names, constants -/
theorem e_var {i : Nat} {x : Str} {pos : Pos} (hN : X.N[i]? = some x) (hv : Vis X.env.scope x) (hd : (x == ("__debug__" : Str)) = false) (hcd : (x == ("__classdict__" : Str)) = false) : PE X (.Name x pos) (tE K C (.var i)) := by
  refine PE.imp (pe_var hN hv hd hcd) fun σ H Q ⟨F, env, ag, env', s, e, q⟩ => ?_
  cases z : env[i]? with
  | none => simp only [evA, z] at e; cases e
  | some sl =>
    cases sl with
    | un => simp only [evA, z] at e; cases e
    | d y =>
      simp only [evA, z] at e; cases e
      obtain ⟨v, h1, h2⟩ := s.dd i _ z
      exact ⟨v, h1, q F H v (Se.refl s) h2⟩
    | own xs m =>
      simp only [evA, z] at e; cases e
      obtain ⟨p, vs, h1, _⟩ := s.ow i _ _ z
      exact ⟨_, h1, q F H _ (Se.refl s) h1⟩
theorem e_lit {e : Expr} {v : V} {d : D} (h : PE X e (tC v)) (hd : ∀ F, Dv K F v d) : PE X e (tE K C (.lit d)) := by
  refine PE.imp h fun σ H Q ⟨F, env, ag, env', s, e, q⟩ => ?_
  simp only [evA] at e; cases e
  exact q F H v (Se.refl s) (hd F)
/-! ### and, or, not, if -/
theorem e_and {a b : Expr} {rest : List Expr} {ia ib : E} {pos : Pos} (ha : PE X a (tE K C ia)) (hb : PE X (.BoolOp .And (b :: rest) pos) (tE K C ib)) : PE X (.BoolOp .And (a :: b :: rest) pos) (tE K C (.and ia ib)) := by
  refine PE.imp (pe_and ha hb) fun σ H Q ⟨F, env, ag, env', s, e, q⟩ => ?_
  simp only [evA] at e
  obtain ⟨p, e1, e⟩ := bs e
  obtain ⟨k, e2, e⟩ := bs e
  refine ⟨F, env, p.1, p.2, s, e1, fun F1 H1 v S1 r1 => ⟨k, boolA_ok S1.sr r1 e2, ?_⟩⟩
  cases k with
  | true =>
    rw [if_pos rfl] at e ⊢
    obtain ⟨z, e3, e⟩ := bs e
    obtain ⟨k', e4, e⟩ := bs e
    cases e
    exact ⟨F1, p.2, z.1, z.2, S1.sr, e3, fun F2 H2 u S2 r2 => q F2 H2 u (S1.trans S2) (by rw [boolA_ok S2.sr r2 e4]; exact .bl k')⟩
  | false =>
    rw [if_neg Bool.false_ne_true] at e ⊢
    cases e
    exact q F1 H1 _ S1 (.bl false)
theorem e_or {a b : Expr} {rest : List Expr} {ia ib : E} {pos : Pos} (ha : PE X a (tE K C ia)) (hb : PE X (.BoolOp .Or (b :: rest) pos) (tE K C ib)) : PE X (.BoolOp .Or (a :: b :: rest) pos) (tE K C (.or ia ib)) := by
  refine PE.imp (pe_or ha hb) fun σ H Q ⟨F, env, ag, env', s, e, q⟩ => ?_
  simp only [evA] at e
  obtain ⟨p, e1, e⟩ := bs e
  obtain ⟨k, e2, e⟩ := bs e
  refine ⟨F, env, p.1, p.2, s, e1, fun F1 H1 v S1 r1 => ⟨k, boolA_ok S1.sr r1 e2, ?_⟩⟩
  cases k with
  | true =>
    rw [if_pos rfl] at e ⊢
    cases e
    exact q F1 H1 _ S1 (.bl true)
  | false =>
    rw [if_neg Bool.false_ne_true] at e ⊢
    obtain ⟨z, e3, e⟩ := bs e
    obtain ⟨k', e4, e⟩ := bs e
    cases e
    exact ⟨F1, p.2, z.1, z.2, S1.sr, e3, fun F2 H2 u S2 r2 => q F2 H2 u (S1.trans S2) (by rw [boolA_ok S2.sr r2 e4]; exact .bl k')⟩
theorem w_and {a b : Expr} {rest : List Expr} {ia ib : E} {pos : Pos} (ha : PT X a (tT K C ia)) (hb : PW X (.BoolOp .And (b :: rest) pos) (tT K C ib)) : PW X (.BoolOp .And (a :: b :: rest) pos) (tT K C (.and ia ib)) := by
  refine PW.imp (pw_and ha hb) fun σ H Q ⟨F, env, ag, env', k0, s, e, e0, q⟩ => ?_
  simp only [evA] at e
  obtain ⟨p, e1, e⟩ := bs e
  obtain ⟨k, e2, e⟩ := bs e
  refine ⟨F, env, p.1, p.2, k, s, e1, e2, fun F1 H1 S1 => ?_⟩
  cases k with
  | true =>
    rw [if_pos rfl] at e ⊢
    obtain ⟨z, e3, e⟩ := bs e
    obtain ⟨k', e4, e⟩ := bs e
    cases e
    obtain rfl : k' = k0 := Option.some.inj e0
    exact ⟨F1, p.2, z.1, z.2, k', S1.sr, e3, e4, fun F2 H2 S2 => q F2 H2 (S1.trans S2)⟩
  | false =>
    rw [if_neg Bool.false_ne_true] at e ⊢
    cases e
    cases e0
    exact q F1 H1 S1
theorem w_or {a b : Expr} {rest : List Expr} {ia ib : E} {pos : Pos} (ha : PT X a (tT K C ia)) (hb : PW X (.BoolOp .Or (b :: rest) pos) (tT K C ib)) : PW X (.BoolOp .Or (a :: b :: rest) pos) (tT K C (.or ia ib)) := by
  refine PW.imp (pw_or ha hb) fun σ H Q ⟨F, env, ag, env', k0, s, e, e0, q⟩ => ?_
  simp only [evA] at e
  obtain ⟨p, e1, e⟩ := bs e
  obtain ⟨k, e2, e⟩ := bs e
  refine ⟨F, env, p.1, p.2, k, s, e1, e2, fun F1 H1 S1 => ?_⟩
  cases k with
  | true =>
    rw [if_pos rfl] at e ⊢
    cases e
    cases e0
    exact q F1 H1 S1
  | false =>
    rw [if_neg Bool.false_ne_true] at e ⊢
    obtain ⟨z, e3, e⟩ := bs e
    obtain ⟨k', e4, e⟩ := bs e
    cases e
    obtain rfl : k' = k0 := Option.some.inj e0
    exact ⟨F1, p.2, z.1, z.2, k', S1.sr, e3, e4, fun F2 H2 S2 => q F2 H2 (S1.trans S2)⟩
theorem no_ev {ia : E} {ag : Ag} (e : evA C (.op .no [ia]) env = some (ag, env')) : ∃ p b, evA C ia env = some p ∧ boolA p.2 p.1 = some b ∧ ag = .v (.d (.bl (!b))) ∧ env' = p.2 := by
  simp only [evA] at e
  obtain ⟨p, e1, e⟩ := bs e
  obtain ⟨ds, e2, e⟩ := bs e
  obtain ⟨t, e3, e⟩ := bs e
  cases e
  obtain ⟨a, h1, h3, h4⟩ := evAs_one (show evAs C [ia] env = some (p.1, p.2) from e1)
  rw [h3, h4] at e2
  simp only [rdAs] at e2
  obtain ⟨x, e4, e2⟩ := bs e2
  simp only [Option.bind_some] at e2
  cases e2
  have hx : ∃ b, x = .bl b ∧ t = .d (.bl (!b)) := by
    cases x with
    | bl b => exact ⟨b, rfl, bD_eq e3⟩
    | _ => exact nomatch (show (none : Option T) = some t from e3)
  obtain ⟨b, rfl, rfl⟩ := hx
  refine ⟨a, b, h1, ?_, rfl, h4⟩
  match z : a.1, e4 with
  | .v (.d y), e4 => cases e4; rfl
  | .v (.fr ys), e4 => cases e4
  | .r i, e4 =>
    cases w : a.2[i]? with
    | none => simp only [rdA, w] at e4; cases e4
    | some sl =>
      cases sl with
      | un => simp only [rdA, w] at e4; cases e4
      | d y => simp only [rdA, w] at e4; cases e4; simp only [boolA, w]
      | own ys m => simp only [rdA, w] at e4; cases e4
theorem e_not {a : Expr} {ia : E} {pos : Pos} (ha : PE X a (tE K C ia)) : PE X (.UnaryOp .Not a pos) (tE K C (.op .no [ia])) := by
  refine PE.imp (pe_not ha) fun σ H Q ⟨F, env, ag, env', s, e, q⟩ => ?_
  obtain ⟨p, b, e1, e2, rfl, rfl⟩ := no_ev e
  exact ⟨F, env, p.1, p.2, s, e1, fun F1 H1 v S1 r1 => ⟨b, boolA_ok S1.sr r1 e2, q F1 H1 _ S1 (.bl _)⟩⟩
theorem w_not {a : Expr} {ia : E} {pos : Pos} (ha : PT X a (tT K C ia)) : PT X (.UnaryOp .Not a pos) (tT K C (.op .no [ia])) := by
  refine PT.imp (pt_not ha) fun σ H Q ⟨F, env, ag, env', k, s, e, e0, q⟩ => ?_
  obtain ⟨p, b, e1, e2, rfl, rfl⟩ := no_ev e
  cases e0
  exact ⟨F, env, p.1, p.2, b, s, e1, e2, fun F1 H1 S1 => q F1 H1 S1⟩
theorem e_ite {c a b : Expr} {ic ia ib : E} {pos : Pos} (hc : PT X c (tT K C ic)) (ha : PE X a (tE K C ia)) (hb : PE X b (tE K C ib)) : PE X (.IfExp c a b pos) (tE K C (.ite ic ia ib)) := by
  refine PE.imp (pe_ifExp hc ha hb) fun σ H Q ⟨F, env, ag, env', s, e, q⟩ => ?_
  simp only [evA] at e
  obtain ⟨p, e1, e⟩ := bs e
  obtain ⟨k, e2, e⟩ := bs e
  refine ⟨F, env, p.1, p.2, k, s, e1, e2, fun F1 H1 S1 => ?_⟩
  cases k with
  | true =>
    rw [if_pos rfl] at e ⊢
    exact ⟨F1, p.2, ag, env', S1.sr, e, fun F2 H2 u S2 r2 => q F2 H2 u (S1.trans S2) (r2.back S1.dom)⟩
  | false =>
    rw [if_neg Bool.false_ne_true] at e ⊢
    exact ⟨F1, p.2, ag, env', S1.sr, e, fun F2 H2 u S2 r2 => q F2 H2 u (S1.trans S2) (r2.back S1.dom)⟩
/-- a value that is a bool, as a test -/
theorem w_val {e : Expr} {ir : E} (h : PE X e (tE K C ir)) (he : ∀ whole, isTrue e X.env whole = (do let v ← whole; standAt e.pos; holding [v] (truthy v))) : PT X e (tT K C ir) := by
  refine PT.imp (pt_val h he) fun σ H Q ⟨F, env, ag, env', k, s, e, e0, q⟩ => ?_
  exact ⟨F, env, ag, env', s, e, fun F1 H1 v S1 r1 => ⟨k, boolA_ok S1.sr r1 e0, q F1 H1 S1⟩⟩
/-! ### comparisons -/
theorem op_bool {o : Op} {irs : List E} {ag : Ag} {k : Bool} (e : evA C (.op o irs) env = some (ag, env')) (e0 : boolA env' ag = some k) : ag = .v (.d (.bl k)) := by
  simp only [evA] at e
  obtain ⟨p, e1, e⟩ := bs e
  obtain ⟨ds, e2, e⟩ := bs e
  obtain ⟨t, e3, e⟩ := bs e
  cases e
  match t, e0 with
  | .d (.bl b), e0 => cases e0; rfl
theorem w_cmp {op : CmpOp} {o : Op} {a b : Expr} {ia ib : E} {pos : Pos} (ho : OpR X (compareOp op) (r2 K o)) (ha : PE X a (tE K C ia)) (hb : PE X b (tE K C ib)) (hm : behindInMarks op b = false) : PT X (.Compare a [op] [b] pos) (tT K C (.op o [ia, ib])) := by
  refine PT.imp (pt_cmpR ho ha hb hm) fun σ H Q ⟨F, env, ag, env', k, s, e, e0, q⟩ => ?_
  have hag := op_bool e e0
  subst hag
  exact t2_of (Q := fun x H' => ∃ k, x = V.bl k ∧ Q k H') ⟨F, env, _, env', s, e, fun F1 H1 v S1 r1 => ⟨k, by cases r1; rfl, q F1 H1 S1⟩⟩
theorem chain_of {o o' : Op} {ia ib ic : E} (h : tE K C (.chain o o' ia ib ic) σ H Q) : tChain (r2 K o) (r2 K o') (tE K C ia) (tE K C ib) (tE K C ic) σ H Q := by
  obtain ⟨F, env, ag, env', s, e, q⟩ := h
  simp only [evA] at e
  obtain ⟨p, e1, e⟩ := bs e
  obtain ⟨w, e2, e⟩ := bs e
  obtain ⟨ds, e3, e⟩ := bs e
  obtain ⟨t, e4, e⟩ := bs e
  refine tE_two s e1 e2 fun F1 H1 v u S1 r1 => rO_of' S1 r1 e3 e4 fun F2 H2 z S12 S2 rz => ?_
  match t, rz, e with
  | .d (.bl true), rz, e =>
    cases rz
    refine ⟨true, rfl, ?_⟩
    rw [if_pos rfl]
    obtain ⟨c, e5, e⟩ := bs e
    obtain ⟨ds', e6, e⟩ := bs e
    obtain ⟨t', e7, e⟩ := bs e
    cases e
    refine ⟨F2, w.2, c.1, c.2, S2.sr, e5, fun F3 H3 x S3 r3 => ?_⟩
    have S13 := S2.trans S3
    cases r1 with
    | cons ra rb _ => cases rb with
      | cons rb _ _ =>
        have r12 : RAs K σ F3 H3 c.2 H [u, x] [w.1, c.1] := by
          exact .cons' (rb.mono S12) S3 (.cons r3 .nil fun _ _ z => by cases z) S2.dom
        exact rO_of S13 r12 e6 e7 fun F4 H4 y S4 r4 => q F4 H4 y S4 r4
  | .d (.bl false), rz, e =>
    cases rz
    cases e
    refine ⟨false, rfl, ?_⟩
    rw [if_neg Bool.false_ne_true]
    exact q F2 H2 _ S2 (.bl false)
end Ev

/-! Ev, part L: lists that are lent or walked stay where they are. -/
namespace Ev
/-- what is lent (mode 1) or walked (2 and above) stays so; what is walked stays as it is -/
def Lk (env env' : En) : Prop := ∀ (i : Nat) (xs : List D) (m : Nat), env[i]? = some (.own xs (m + 1)) → ∃ ys, env'[i]? = some (.own ys (m + 1)) ∧ (1 ≤ m → ys = xs)
theorem Lk.refl (env : En) : Lk env env := fun i xs m h => ⟨xs, h, fun _ => rfl⟩
theorem Lk.trans {a b c : En} (h : Lk a b) (g : Lk b c) : Lk a c := fun i xs m e => by
  obtain ⟨ys, e1, q1⟩ := h i xs m e
  obtain ⟨zs, e2, q2⟩ := g i ys m e1
  exact ⟨zs, e2, fun z => by rw [q2 z, q1 z]⟩
/-- a slot that was not lent is written -/
theorem Lk.set {env : En} {i : Nat} {s : Sl} (h : ∀ xs m, env[i]? ≠ some (.own xs (m + 1))) : Lk env (env.set i s) := fun j xs m e => by
  have hj : i ≠ j := fun z => by subst z; exact h _ _ e
  exact ⟨xs, by rw [List.getElem?_set_ne hj]; exact e, fun _ => rfl⟩
/-- an own list is written, not a walked one -/
theorem Lk.setOwn {env : En} {i : Nat} {xs ys : List D} {m : Nat} (h : env[i]? = some (.own xs m)) (hm : m ≤ 1) : Lk env (env.set i (.own ys m)) := fun j zs k e => by
  by_cases hj : i = j
  · subst hj
    rw [h] at e
    cases e
    refine ⟨ys, ?_, fun z => ?_⟩
    · rw [List.getElem?_set_self (List.getElem?_eq_some_iff.mp h).1]
    · have : k = 0 := by omega
      subst this; exact absurd z (by decide)
  · exact ⟨zs, by rw [List.getElem?_set_ne hj]; exact e, fun _ => rfl⟩
variable {env env' : En}
theorem frz_lk {a : Ag} {x : D} (h : frz a env = some (x, env')) : Lk env env' := by
  match a, h with
  | .v (.d y), h => cases h; exact Lk.refl _
  | .v (.fr ys), h => cases h; exact Lk.refl _
  | .r i, h =>
    simp only [frz] at h
    split at h
    · rename_i xs q
      cases h
      exact Lk.set fun ys m e => by rw [q] at e; cases e
    · cases h; exact Lk.refl _
    · cases h
theorem frzs_lk : ∀ {as : List Ag} {env env' : En} {xs : List D}, frzs as env = some (xs, env') → Lk env env'
  | [], env, _, xs, h => by cases h; exact Lk.refl _
  | a :: as, env, _, xs, h => by
    simp only [frzs] at h
    obtain ⟨p, h1, h⟩ := bs h
    obtain ⟨q, h2, h⟩ := bs h
    cases h
    exact (frz_lk h1).trans (frzs_lk h2)
theorem keepA_lk {a : Ag} {x : T} (h : keepA a env = some (x, env')) : Lk env env' := by
  match a, h with
  | .v y, h => cases h; exact Lk.refl _
  | .r i, h =>
    simp only [keepA] at h
    obtain ⟨p, h1, h⟩ := bs h
    cases h
    exact frz_lk h1
theorem keepAs_lk : ∀ {as : List Ag} {env env' : En} {xs : List T}, keepAs as env = some (xs, env') → Lk env env'
  | [], env, _, xs, h => by cases h; exact Lk.refl _
  | a :: as, env, _, xs, h => by
    simp only [keepAs] at h
    obtain ⟨p, h1, h⟩ := bs h
    obtain ⟨q, h2, h⟩ := bs h
    cases h
    exact (keepA_lk h1).trans (keepAs_lk h2)
theorem putN_lk {i : Nat} {t : T} (h : putN i t env = some env') : Lk env env' := by
  simp only [putN] at h
  split at h
  · cases h
  · rename_i q1 q2
    cases h
    exact Lk.set fun xs m e => by
      rw [q2] at e; cases e
      exact q1 _ _ rfl
  · cases h
mutual
theorem bindN_lk : ∀ (t : Tn) {x : D} {env env' : En}, bindN t x env = some env' → Lk env env'
  | .nm i, x, env, _, h => putN_lk (by simpa [bindN] using h)
  | .tp ts, x, env, _, h => by
    cases x with
    | tup xs => exact bindNs_lk ts (by simpa [bindN] using h)
    | lst xs => exact bindNs_lk ts (by simpa [bindN] using h)
    | _ => simp [bindN] at h
theorem bindNs_lk : ∀ (ts : List Tn) {xs : List D} {env env' : En}, bindNs ts xs env = some env' → Lk env env'
  | [], [], env, _, h => by simp only [bindNs] at h; cases h; exact Lk.refl _
  | [], _ :: _, env, _, h => by simp [bindNs] at h
  | _ :: _, [], env, _, h => by simp [bindNs] at h
  | t :: ts, x :: xs, env, _, h => by
    simp only [bindNs] at h
    obtain ⟨e1, h1, h2⟩ := bs h
    exact (bindN_lk t h1).trans (bindNs_lk ts h2)
end
theorem setAt_lk {i : Nat} {k x : D} (h : setAt i k x env = some env') : Lk env env' := by
  simp only [setAt] at h
  split at h
  · rename_i xs m j q
    split at h
    · rename_i hm
      obtain ⟨n, _, h⟩ := bs h
      cases h
      exact Lk.setOwn q hm
    · cases h
  · cases h
theorem frzR_lk : ∀ {rf : List Bool} {as as' : List Ag} {env env' : En}, frzR rf as env = some (as', env') → Lk env env'
  | rf, [], as', env, env', h => by
    have h' : some (([] : List Ag), env) = some (as', env') := by cases rf with
      | nil => exact h
      | cons b r => cases b <;> exact h
    cases h'; exact Lk.refl _
  | [], a :: as, as', env, _, h => by
    simp only [frzR] at h
    obtain ⟨p, h1, h⟩ := bs h
    obtain ⟨q, h2, h⟩ := bs h
    cases h
    exact (frz_lk h1).trans (frzR_lk h2)
  | false :: rf, a :: as, as', env, _, h => by
    simp only [frzR] at h
    obtain ⟨p, h1, h⟩ := bs h
    obtain ⟨q, h2, h⟩ := bs h
    cases h
    exact (frz_lk h1).trans (frzR_lk h2)
  | true :: rf, a :: as, as', env, _, h => by
    simp only [frzR] at h
    obtain ⟨q, h2, h⟩ := bs h
    cases h
    exact frzR_lk h2
/-- what a call gives back -/
def CLk (C : Sem0) : Prop := ∀ f args t outs, C f args = some (t, outs) → Lk args outs
theorem postA_lk : ∀ {as : List Ag} {args outs : List Sl} {e0 env env' : En}, (∀ i ∈ refs as, env[i]? = e0[i]?) → (refs as).Nodup → slAs e0 as = some args → Lk args outs → postA as outs env = some env' → Lk env env'
  | [], args, outs, e0, env, _, _, _, _, _, h => by simp only [postA] at h; cases h; exact Lk.refl _
  | .v t :: as, args, outs, e0, env, env', hr, hn, ha, hl, h => by
    cases outs with
    | nil => simp [postA] at h
    | cons o outs =>
      simp only [postA] at h
      simp only [slAs] at ha
      obtain ⟨x, h1, ha⟩ := bs ha
      obtain ⟨xs, h2, ha⟩ := bs ha
      cases ha
      exact postA_lk (as := as) hr hn h2 (fun i ys m e => hl (i + 1) ys m e) h
  | .r i :: as, args, outs, e0, env, env', hr, hn, ha, hl, h => by
    cases outs with
    | nil => simp [postA] at h
    | cons o outs =>
      simp only [postA] at h
      simp only [slAs] at ha
      obtain ⟨x, h1, ha⟩ := bs ha
      obtain ⟨xs, h2, ha⟩ := bs ha
      cases ha
      have hl' : Lk xs outs := fun i ys m e => hl (i + 1) ys m e
      have hn' : i ∉ refs as ∧ (refs as).Nodup := List.nodup_cons.mp hn
      split at h
      · rename_i zs m ys m' q
        have h0 : e0[i]? = some (.own zs m) := by rw [← hr i (by simp [refs])]; exact q
        simp only [slA, h0] at h1
        cases h1
        refine Lk.trans ?_ (postA_lk (as := as) (e0 := e0) (fun j hj => ?_) hn'.2 h2 hl' h)
        · intro j us k e
          by_cases hj : i = j
          · subst hj
            have e2 : Sl.own zs m = .own us (k + 1) := Option.some.inj (q.symm.trans e)
            injection e2 with e3 e4
            subst e3 e4
            refine ⟨ys, by rw [List.getElem?_set_self (List.getElem?_eq_some_iff.mp q).1], fun z => ?_⟩
            have hk : (if k + 1 ≤ 1 then 1 else 3) = 2 + 1 := by rw [if_neg (by omega)]
            obtain ⟨vs, g1, g2⟩ := hl 0 zs 2 (by rw [hk]; rfl)
            have g3 : some (Sl.own ys (m' + 1)) = some (Sl.own vs (2 + 1)) := g1
            cases g3
            exact g2 (by decide)
          · exact ⟨us, by rw [List.getElem?_set_ne hj]; exact e, fun _ => rfl⟩
        · have hj' : i ≠ j := fun z => hn'.1 (z ▸ hj)
          rw [List.getElem?_set_ne hj']
          exact hr j (by simp [refs, hj])
      · exact postA_lk (as := as) (fun j hj => hr j (by simp [refs, hj])) hn'.2 h2 hl' h
      · cases h
theorem wipeE_ne : ∀ {vs : List Nat} {j : Nat}, j ∉ vs → (wipeE env vs)[j]? = env[j]?
  | [], j, h => rfl
  | v :: vs, j, h => by
    simp only [List.mem_cons, not_or] at h
    rw [wipeE, List.getElem?_set_ne (Ne.symm h.1)]
    exact wipeE_ne h.2
theorem backE_ne {old : En} : ∀ {vs : List Nat} {j : Nat}, j ∉ vs → (backE old env vs)[j]? = env[j]?
  | [], j, h => rfl
  | v :: vs, j, h => by
    simp only [List.mem_cons, not_or] at h
    rw [backE]
    cases old[v]? with
    | none => exact backE_ne h.2
    | some s =>
      show ((backE old env vs).set v s)[j]? = _
      rw [List.getElem?_set_ne (Ne.symm h.1)]
      exact backE_ne h.2
theorem backE_len {old : En} : ∀ {vs : List Nat}, (backE old env vs).length = env.length
  | [] => rfl
  | v :: vs => by
    rw [backE]
    cases old[v]? with
    | none => exact backE_len
    | some s => show ((backE old env vs).set v s).length = _; rw [List.length_set]; exact backE_len
theorem wipeE_len : ∀ {vs : List Nat}, (wipeE env vs).length = env.length
  | [] => rfl
  | v :: vs => by rw [wipeE, List.length_set]; exact wipeE_len
theorem backE_in {old : En} (hl : old.length = env.length) : ∀ {vs : List Nat} {j : Nat}, j ∈ vs → (backE old env vs)[j]? = old[j]?
  | v :: vs, j, h => by
    rw [backE]
    by_cases e : v = j
    · subst e
      cases q : old[v]? with
      | none =>
        show (backE old env vs)[v]? = none
        have := List.getElem?_eq_none_iff.mp q
        rw [List.getElem?_eq_none]
        rw [backE_len]; omega
      | some s =>
        show ((backE old env vs).set v s)[v]? = some s
        rw [List.getElem?_set_self]
        rw [backE_len]
        have := (List.getElem?_eq_some_iff.mp q).1
        omega
    · have h' : j ∈ vs := by
        rcases List.mem_cons.mp h with z | z
        · exact absurd z.symm e
        · exact z
      cases q : old[v]? with
      | none => exact backE_in hl h'
      | some s =>
        show ((backE old env vs).set v s)[j]? = _
        rw [List.getElem?_set_ne e]
        exact backE_in hl h'
/-- how often a slot is walked -/
def cntR (i : Nat) : List Ag → Nat
  | [] => 0
  | .r j :: as => (if j = i then 1 else 0) + cntR i as
  | .v _ :: as => cntR i as
theorem cntR_pos {i : Nat} : ∀ {as : List Ag}, i ∈ refs as → 0 < cntR i as
  | .v t :: as, h => cntR_pos (as := as) h
  | .r j :: as, h => by
    rcases List.mem_cons.mp h with z | z
    · simp only [cntR]; rw [if_pos z.symm]; omega
    · have := cntR_pos (as := as) z
      simp only [cntR]; omega
theorem lockA_get (i : Nat) : ∀ {as : List Ag} {env : En}, (lockA as env)[i]? = match env[i]? with
    | some (.own xs m) => some (.own xs (m + 2 * cntR i as))
    | x => x
  | [], env => by
    simp only [lockA, cntR]
    split
    · rename_i q; rw [q]; rfl
    · rfl
  | .v t :: as, env => by simp only [lockA, cntR]; exact lockA_get i
  | .r j :: as, env => by
    simp only [lockA, cntR]
    split
    · rename_i xs m q
      rw [lockA_get i]
      by_cases e : j = i
      · subst e
        rw [List.getElem?_set_self (List.getElem?_eq_some_iff.mp q).1, q]
        simp only [if_pos]
        congr 2; omega
      · rw [List.getElem?_set_ne e]
        simp only [if_neg e, Nat.zero_add]
    · rename_i q
      rw [lockA_get i]
      by_cases e : j = i
      · subst e
        split
        · rename_i ys m z; exact absurd z (q ys m)
        · rfl
      · simp only [if_neg e, Nat.zero_add]
theorem unlockA_get (i : Nat) : ∀ {as : List Ag} {env : En}, (unlockA as env)[i]? = match env[i]? with
    | some (.own xs m) => some (.own xs (m - 2 * cntR i as))
    | x => x
  | [], env => by
    simp only [unlockA, cntR]
    split
    · rename_i q; rw [q]; rfl
    · rfl
  | .v t :: as, env => by simp only [unlockA, cntR]; exact unlockA_get i
  | .r j :: as, env => by
    simp only [unlockA, cntR]
    split
    · rename_i xs m q
      rw [unlockA_get i]
      by_cases e : j = i
      · subst e
        rw [List.getElem?_set_self (List.getElem?_eq_some_iff.mp q).1, q]
        simp only [if_pos]
        congr 2; omega
      · rw [List.getElem?_set_ne e]
        simp only [if_neg e, Nat.zero_add]
    · rename_i q
      rw [unlockA_get i]
      by_cases e : j = i
      · subst e
        split
        · rename_i ys m z; exact absurd z (q ys m)
        · rfl
      · simp only [if_neg e, Nat.zero_add]
/-- locked, walked, unlocked -/
theorem lock_lk {as : List Ag} {env1 : En} (h : Lk (lockA as env) env1) : Lk env (unlockA as env1) := fun i xs m e => by
  have h1 : (lockA as env)[i]? = some (.own xs ((m + 2 * cntR i as) + 1)) := by
    rw [lockA_get, e]; show some (Sl.own xs (m + 1 + 2 * cntR i as)) = _; congr 2; omega
  obtain ⟨ys, h2, h3⟩ := h i xs _ h1
  refine ⟨ys, ?_, fun z => h3 (by omega)⟩
  rw [unlockA_get, h2]
  show some (Sl.own ys (m + 2 * cntR i as + 1 - 2 * cntR i as)) = _
  congr 2; omega
theorem compL_lk {step : D → En → Option (Option D × En)} (hs : ∀ x en p, step x en = some p → Lk en p.2) : ∀ {xs : List D} {env : En} {p : List D × En}, compL step xs env = some p → Lk env p.2
  | [], env, p, h => by cases h; exact Lk.refl _
  | x :: xs, env, p, h => by
    simp only [compL] at h
    obtain ⟨a, h1, h⟩ := bs h
    obtain ⟨b, h2, h⟩ := bs h
    have := (hs _ _ _ h1).trans (compL_lk hs h2)
    split at h <;> cases h <;> exact this
/-- what is no own name of the block stays -/
def LkX (own : List Nat) (env env' : En) : Prop := ∀ (i : Nat) (xs : List D) (m : Nat), i ∉ own → env[i]? = some (.own xs (m + 1)) → ∃ ys, env'[i]? = some (.own ys (m + 1)) ∧ (1 ≤ m → ys = xs)
theorem compL_lkX {own : List Nat} {step : D → En → Option (Option D × En)} (hs : ∀ x en p, step x en = some p → LkX own en p.2) : ∀ {xs : List D} {env : En} {p : List D × En}, compL step xs env = some p → LkX own env p.2
  | [], env, p, h => by cases h; exact fun i xs m _ e => ⟨xs, e, fun _ => rfl⟩
  | x :: xs, env, p, h => by
    simp only [compL] at h
    obtain ⟨a, h1, h⟩ := bs h
    obtain ⟨b, h2, h⟩ := bs h
    have l1 := hs _ _ _ h1
    have l2 := compL_lkX hs h2
    have : LkX own env b.2 := fun i xs m n e => by
      obtain ⟨ys, e1, q1⟩ := l1 i xs m n e
      obtain ⟨zs, e2, q2⟩ := l2 i ys m n e1
      exact ⟨zs, e2, fun z => by rw [q2 z, q1 z]⟩
    split at h <;> cases h <;> exact this
section
variable {C : Sem0} (hC : CLk C)
include hC
/-- the turns of a comprehension -/
theorem comp_lkX {elt : E} {tg : Tn} {cond : List E} {own : List Nat} (h1 : ∀ {env p}, evA C elt env = some p → Lk env p.2) (h2 : ∀ {env p}, evCond C cond env = some p → Lk env p.2) {x : D} {en : En} {p : Option D × En}
    (h : ((bindN tg x (wipeE en own)).bind fun en => (evCond C cond en).bind fun c => if c.1 = true then (evA C elt c.2).bind fun q => (frz q.1 q.2).bind fun r => some (some r.1, r.2) else some (none, c.2)) = some p) : LkX own en p.2 := by
  obtain ⟨e1, g1, h⟩ := bs h
  obtain ⟨c, g2, h⟩ := bs h
  have l : Lk (wipeE en own) p.2 := by
    refine (bindN_lk tg g1).trans ((h2 g2).trans ?_)
    split at h
    · obtain ⟨q, g3, h⟩ := bs h
      obtain ⟨r, g4, h⟩ := bs h
      cases h
      exact (h1 g3).trans (frz_lk g4)
    · cases h; exact Lk.refl _
  exact fun i xs m n e => l i xs m (by rw [wipeE_ne n]; exact e)
end
end Ev

namespace Ev
theorem backE_lkX {own : List Nat} {old env : En} (hl : env.length = old.length) (h : LkX own old env) : Lk old (backE old env own) := fun i xs m e => by
  by_cases ho : i ∈ own
  · exact ⟨xs, by rw [backE_in hl.symm ho]; exact e, fun _ => rfl⟩
  · rw [backE_ne ho]; exact h i xs m ho e
/-! lengths -/
theorem frz_len {a : Ag} {x : D} {env env' : En} (h : frz a env = some (x, env')) : env'.length = env.length := by
  match a, h with
  | .v (.d y), h => cases h; rfl
  | .v (.fr ys), h => cases h; rfl
  | .r i, h =>
    simp only [frz] at h
    split at h
    · cases h; exact List.length_set
    · cases h; rfl
    · cases h
theorem frzs_len : ∀ {as : List Ag} {env env' : En} {xs : List D}, frzs as env = some (xs, env') → env'.length = env.length
  | [], env, _, xs, h => by cases h; rfl
  | a :: as, env, _, xs, h => by
    simp only [frzs] at h
    obtain ⟨p, h1, h⟩ := bs h
    obtain ⟨q, h2, h⟩ := bs h
    cases h
    exact (frzs_len h2).trans (frz_len h1)
theorem putN_len {i : Nat} {t : T} {env env' : En} (h : putN i t env = some env') : env'.length = env.length := by
  simp only [putN] at h
  split at h
  · cases h
  · cases h; exact List.length_set
  · cases h
mutual
theorem bindN_len : ∀ (t : Tn) {x : D} {env env' : En}, bindN t x env = some env' → env'.length = env.length
  | .nm i, x, env, _, h => putN_len (by simpa [bindN] using h)
  | .tp ts, x, env, _, h => by
    cases x with
    | tup xs => exact bindNs_len ts (by simpa [bindN] using h)
    | lst xs => exact bindNs_len ts (by simpa [bindN] using h)
    | _ => simp [bindN] at h
theorem bindNs_len : ∀ (ts : List Tn) {xs : List D} {env env' : En}, bindNs ts xs env = some env' → env'.length = env.length
  | [], [], env, _, h => by simp only [bindNs] at h; cases h; rfl
  | [], _ :: _, env, _, h => by simp [bindNs] at h
  | _ :: _, [], env, _, h => by simp [bindNs] at h
  | t :: ts, x :: xs, env, _, h => by
    simp only [bindNs] at h
    obtain ⟨e1, h1, h2⟩ := bs h
    exact (bindNs_len ts h2).trans (bindN_len t h1)
end
theorem frzR_len : ∀ {rf : List Bool} {as as' : List Ag} {env env' : En}, frzR rf as env = some (as', env') → env'.length = env.length
  | rf, [], as', env, env', h => by
    have h' : some (([] : List Ag), env) = some (as', env') := by cases rf with
      | nil => exact h
      | cons b r => cases b <;> exact h
    cases h'; rfl
  | [], a :: as, as', env, _, h => by
    simp only [frzR] at h
    obtain ⟨p, h1, h⟩ := bs h
    obtain ⟨q, h2, h⟩ := bs h
    cases h
    exact (frzR_len h2).trans (frz_len h1)
  | false :: rf, a :: as, as', env, _, h => by
    simp only [frzR] at h
    obtain ⟨p, h1, h⟩ := bs h
    obtain ⟨q, h2, h⟩ := bs h
    cases h
    exact (frzR_len h2).trans (frz_len h1)
  | true :: rf, a :: as, as', env, _, h => by
    simp only [frzR] at h
    obtain ⟨q, h2, h⟩ := bs h
    cases h
    exact frzR_len h2
theorem postA_len : ∀ {as : List Ag} {outs : List Sl} {env env' : En}, postA as outs env = some env' → env'.length = env.length
  | [], outs, env, _, h => by simp only [postA] at h; cases h; rfl
  | .v t :: as, outs, env, env', h => by
    cases outs with
    | nil => simp [postA] at h
    | cons o outs => simp only [postA] at h; exact postA_len (as := as) h
  | .r i :: as, outs, env, env', h => by
    cases outs with
    | nil => simp [postA] at h
    | cons o outs =>
      simp only [postA] at h
      split at h
      · exact (postA_len (as := as) h).trans List.length_set
      · exact postA_len (as := as) h
      · cases h
theorem lockA_len : ∀ {as : List Ag} {env : En}, (lockA as env).length = env.length
  | [], env => rfl
  | .v t :: as, env => lockA_len (as := as)
  | .r i :: as, env => by
    simp only [lockA]; split
    · exact (lockA_len (as := as)).trans List.length_set
    · exact lockA_len (as := as)
theorem unlockA_len : ∀ {as : List Ag} {env : En}, (unlockA as env).length = env.length
  | [], env => rfl
  | .v t :: as, env => unlockA_len (as := as)
  | .r i :: as, env => by
    simp only [unlockA]; split
    · exact (unlockA_len (as := as)).trans List.length_set
    · exact unlockA_len (as := as)
theorem compL_len {step : D → En → Option (Option D × En)} (hs : ∀ x en p, step x en = some p → p.2.length = en.length) : ∀ {xs : List D} {env : En} {p : List D × En}, compL step xs env = some p → p.2.length = env.length
  | [], env, p, h => by cases h; rfl
  | x :: xs, env, p, h => by
    simp only [compL] at h
    obtain ⟨a, h1, h⟩ := bs h
    obtain ⟨b, h2, h⟩ := bs h
    have := (compL_len hs h2).trans (hs _ _ _ h1)
    split at h <;> cases h <;> exact this
def LL (env env' : En) : Prop := Lk env env' ∧ env'.length = env.length
theorem LL.refl (env : En) : LL env env := ⟨Lk.refl _, rfl⟩
theorem LL.trans {a b c : En} (h : LL a b) (g : LL b c) : LL a c := ⟨h.1.trans g.1, g.2.trans h.2⟩
section
variable {C : Sem0} (hC : CLk C)
include hC
mutual
theorem evA_ll : ∀ (e : E) {env : En} {p : Ag × En}, evA C e env = some p → LL env p.2
  | .var i, env, p, h => by
    simp only [evA] at h
    split at h <;> first | (cases h; exact LL.refl _) | cases h
  | .lit x, env, p, h => by simp only [evA] at h; cases h; exact LL.refl _
  | .op o es, env, p, h => by
    simp only [evA] at h
    obtain ⟨a, h1, h⟩ := bs h
    obtain ⟨b, h2, h⟩ := bs h
    obtain ⟨c, h3, h⟩ := bs h
    cases h; exact evAs_ll es (p := a) h1
  | .tup es, env, p, h => by
    simp only [evA] at h
    obtain ⟨a, h1, h⟩ := bs h
    obtain ⟨b, h2, h⟩ := bs h
    split at h <;> cases h
    exact (evAs_ll es (p := a) h1).trans ⟨frzs_lk h2, frzs_len h2⟩
  | .lst es, env, p, h => by
    simp only [evA] at h
    obtain ⟨a, h1, h⟩ := bs h
    obtain ⟨b, h2, h⟩ := bs h
    split at h <;> cases h
    exact (evAs_ll es (p := a) h1).trans ⟨frzs_lk h2, frzs_len h2⟩
  | .and a b, env, p, h => by
    simp only [evA] at h
    obtain ⟨x, h1, h⟩ := bs h
    obtain ⟨k, h2, h⟩ := bs h
    split at h
    · obtain ⟨y, h3, h⟩ := bs h
      obtain ⟨k', h4, h⟩ := bs h
      cases h; exact (evA_ll a (p := x) h1).trans (evA_ll b (p := y) h3)
    · cases h; exact evA_ll a (p := x) h1
  | .or a b, env, p, h => by
    simp only [evA] at h
    obtain ⟨x, h1, h⟩ := bs h
    obtain ⟨k, h2, h⟩ := bs h
    split at h
    · cases h; exact evA_ll a (p := x) h1
    · obtain ⟨y, h3, h⟩ := bs h
      obtain ⟨k', h4, h⟩ := bs h
      cases h; exact (evA_ll a (p := x) h1).trans (evA_ll b (p := y) h3)
  | .ite c a b, env, p, h => by
    simp only [evA] at h
    obtain ⟨x, h1, h⟩ := bs h
    obtain ⟨k, h2, h⟩ := bs h
    split at h
    · exact (evA_ll c (p := x) h1).trans (evA_ll a h)
    · exact (evA_ll c (p := x) h1).trans (evA_ll b h)
  | .chain o o' a b c, env, p, h => by
    simp only [evA] at h
    obtain ⟨x, h1, h⟩ := bs h
    obtain ⟨y, h2, h⟩ := bs h
    obtain ⟨ds, h3, h⟩ := bs h
    obtain ⟨t, h4, h⟩ := bs h
    have l := (evA_ll a (p := x) h1).trans (evA_ll b (p := y) h2)
    split at h
    · obtain ⟨z, h5, h⟩ := bs h
      obtain ⟨ds', h6, h⟩ := bs h
      obtain ⟨t', h7, h⟩ := bs h
      cases h
      exact l.trans (evA_ll c (p := z) h5)
    · cases h; exact l
    · cases h
  | .call f rf pm es, env, p, h => by
    simp only [evA] at h
    obtain ⟨a, h1, h⟩ := bs h
    obtain ⟨q, h2, h⟩ := bs h
    split at h
    · rename_i hn
      obtain ⟨args, h3, h⟩ := bs h
      obtain ⟨r, h4, h⟩ := bs h
      obtain ⟨env', h5, h⟩ := bs h
      cases h
      exact (evAs_ll es (p := a) h1).trans (LL.trans ⟨frzR_lk h2, frzR_len h2⟩ ⟨postA_lk (fun _ _ => rfl) hn h3 (hC _ _ _ _ h4) h5, postA_len h5⟩)
    · cases h
  | .comp elt tg k es cond own, env, p, h => by
    simp only [evA] at h
    obtain ⟨a, h1, h⟩ := bs h
    obtain ⟨ds, h2, h⟩ := bs h
    obtain ⟨its, h3, h⟩ := bs h
    split at h
    · rename_i hn
      obtain ⟨q, h4, h⟩ := bs h
      cases h
      have hl : q.2.length = (lockA a.1 a.2).length := compL_len (fun x en p h => by
        obtain ⟨e1, g1, h⟩ := bs h
        obtain ⟨c, g2, h⟩ := bs h
        have l1 : c.2.length = en.length := (evCond_ll cond g2).2.trans ((bindN_len tg g1).trans wipeE_len)
        split at h
        · obtain ⟨q, g3, h⟩ := bs h
          obtain ⟨r, g4, h⟩ := bs h
          cases h
          exact ((frz_len g4).trans (evA_ll elt g3).2).trans l1
        · cases h; exact l1) h4
      have hx : LkX own (lockA a.1 a.2) q.2 := compL_lkX (fun x en p h => comp_lkX hC (fun g => (evA_ll elt g).1) (fun g => (evCond_ll cond g).1) h) h4
      refine (evAs_ll es (p := a) h1).trans ⟨lock_lk (backE_lkX hl hx), ?_⟩
      exact unlockA_len.trans (backE_len.trans (hl.trans lockA_len))
    · cases h
  | .mut m i es, env, p, h => by
    simp only [evA] at h
    split at h
    · obtain ⟨a, h1, h⟩ := bs h
      obtain ⟨q, h2, h⟩ := bs h
      have l : LL env q.2 := by
        refine (evAs_ll es (p := a) h1).trans ?_
        split at h2
        · exact ⟨frzs_lk h2, frzs_len h2⟩
        · obtain ⟨ds, h3, h2⟩ := bs h2
          cases h2; exact LL.refl _
      split at h
      · rename_i xs n e
        split at h
        · rename_i hn
          obtain ⟨z, h3, h⟩ := bs h
          cases h
          exact l.trans ⟨Lk.setOwn e hn, List.length_set⟩
        · cases h
      · cases h
    · cases h
  | .met m i es, env, p, h => by
    simp only [evA] at h
    split at h
    · obtain ⟨a, h1, h⟩ := bs h
      obtain ⟨x, h2, h⟩ := bs h
      obtain ⟨ds, h3, h⟩ := bs h
      split at h
      · obtain ⟨z, h4, h⟩ := bs h
        cases h
        exact evAs_ll es (p := a) h1
      · cases h
    · cases h
theorem evAs_ll : ∀ (es : List E) {env : En} {p : List Ag × En}, evAs C es env = some p → LL env p.2
  | [], env, p, h => by simp only [evAs] at h; cases h; exact LL.refl _
  | e :: es, env, p, h => by
    simp only [evAs] at h
    obtain ⟨a, h1, h⟩ := bs h
    obtain ⟨b, h2, h⟩ := bs h
    cases h; exact (evA_ll e (p := a) h1).trans (evAs_ll es (p := b) h2)
theorem evCond_ll : ∀ (es : List E) {env : En} {p : Bool × En}, evCond C es env = some p → LL env p.2
  | [], env, p, h => by simp only [evCond] at h; cases h; exact LL.refl _
  | [e], env, p, h => by
    simp only [evCond] at h
    obtain ⟨a, h1, h⟩ := bs h
    obtain ⟨b, h2, h⟩ := bs h
    cases h; exact evA_ll e (p := a) h1
  | _ :: _ :: _, env, p, h => by simp [evCond] at h
end
omit hC in
def Fl.env : Fl → En
  | .nx e => e
  | .rt _ e => e
  | .bk e => e
  | .ct e => e
omit hC in
theorem mapnx {o : Option En} {f : Fl} (h : o.map Fl.nx = some f) : ∃ e, o = some e ∧ f = .nx e := by
  cases o with
  | none => cases h
  | some e => exact ⟨e, rfl, (Option.some.inj h).symm⟩
omit hC in
theorem keepAs_len : ∀ {as : List Ag} {env env' : En} {xs : List T}, keepAs as env = some (xs, env') → env'.length = env.length
  | [], env, _, xs, h => by cases h; rfl
  | .v t :: as, env, _, xs, h => by
    simp only [keepAs, keepA] at h
    obtain ⟨p, h1, h⟩ := bs h
    obtain ⟨q, h2, h⟩ := bs h
    cases h1; cases h
    exact keepAs_len h2
  | .r i :: as, env, _, xs, h => by
    simp only [keepAs, keepA] at h
    obtain ⟨p, h1, h⟩ := bs h
    obtain ⟨q, h2, h⟩ := bs h
    obtain ⟨r, h3, h1⟩ := bs h1
    cases h1; cases h
    exact (keepAs_len h2).trans (frz_len h3)
omit hC in
theorem keepA_len {a : Ag} {env env' : En} {x : T} (h : keepA a env = some (x, env')) : env'.length = env.length := by
  match a, h with
  | .v t, h => cases h; rfl
  | .r i, h =>
    simp only [keepA] at h
    obtain ⟨r, h3, h1⟩ := bs h
    cases h1
    exact frz_len h3
omit hC in
theorem setAt_len {i : Nat} {k x : D} {env env' : En} (h : setAt i k x env = some env') : env'.length = env.length := by
  simp only [setAt] at h
  split at h
  · split at h
    · obtain ⟨n, _, h⟩ := bs h
      cases h; exact List.length_set
    · cases h
  · cases h
theorem putG_ll : ∀ (g : Tg) {t : T} {env env' : En}, putG C g t env = some env' → LL env env'
  | .n (.nm i), t, env, env', h => ⟨putN_lk h, putN_len h⟩
  | .n (.tp ts), .d x, env, env', h => ⟨bindN_lk (.tp ts) h, bindN_len (.tp ts) h⟩
  | .n (.tp ts), .fr xs, env, env', h => by cases h
  | .sb i k, t, env, env', h => by
    simp only [putG] at h
    split at h
    · obtain ⟨a, h1, h⟩ := bs h
      obtain ⟨b, h2, h⟩ := bs h
      exact (evA_ll hC k h1).trans ⟨setAt_lk h, setAt_len h⟩
    · cases h
theorem putGs_ll : ∀ (g : List Tg) {t : List T} {env env' : En}, putGs C g t env = some env' → LL env env'
  | [], [], env, env', h => by simp only [putGs] at h; cases h; exact LL.refl _
  | [], _ :: _, env, env', h => by simp [putGs] at h
  | _ :: _, [], env, env', h => by simp [putGs] at h
  | g :: gs, t :: ts, env, env', h => by
    simp only [putGs] at h
    obtain ⟨e1, h1, h2⟩ := bs h
    exact (putG_ll hC g h1).trans (putGs_ll gs h2)
theorem whl_ll {cond : En → Option (Bool × En)} {body : En → Option Fl} (h1 : ∀ {e p}, cond e = some p → LL e p.2) (h2 : ∀ {e f}, body e = some f → LL e f.env) : ∀ {n : Nat} {env : En} {f : Fl}, whlN cond body n env = some f → LL env f.env
  | 0, env, f, h => by cases h
  | n + 1, env, f, h => by
    simp only [whlN] at h
    obtain ⟨p, g1, h⟩ := bs h
    split at h
    · obtain ⟨b, g2, h⟩ := bs h
      have l := (h1 g1).trans (h2 g2)
      cases b with
      | nx e => exact l.trans (whl_ll h1 h2 h)
      | ct e => exact l.trans (whl_ll h1 h2 h)
      | bk e => cases h; exact l
      | rt t e => cases h; exact l
    · cases h; exact h1 g1
theorem for_ll {body : D → En → Option Fl} (h2 : ∀ {x e f}, body x e = some f → LL e f.env) : ∀ {xs : List D} {env : En} {f : Fl}, forL body xs env = some f → LL env f.env
  | [], env, f, h => by cases h; exact LL.refl _
  | x :: xs, env, f, h => by
    simp only [forL] at h
    obtain ⟨b, g2, h⟩ := bs h
    have l := h2 g2
    cases b with
    | nx e => exact l.trans (for_ll h2 h)
    | ct e => exact l.trans (for_ll h2 h)
    | bk e => cases h; exact l
    | rt t e => cases h; exact l
mutual
theorem exS_ll (fuel : Nat) : ∀ (s : S) {env : En} {f : Fl}, exS C fuel s env = some f → LL env f.env
  | .asg (.nm i) e, env, f, h => by
    simp only [exS] at h
    obtain ⟨p, h1, h⟩ := bs h
    obtain ⟨q, h2, h⟩ := bs h
    obtain ⟨e', h3, rfl⟩ := mapnx h
    exact (evA_ll hC e h1).trans (LL.trans ⟨keepA_lk h2, keepA_len h2⟩ ⟨putN_lk h3, putN_len h3⟩)
  | .asg (.tp ts) e, env, f, h => by
    simp only [exS] at h
    obtain ⟨p, h1, h⟩ := bs h
    obtain ⟨q, h2, h⟩ := bs h
    obtain ⟨e', h3, rfl⟩ := mapnx h
    exact (evA_ll hC e h1).trans (LL.trans ⟨frz_lk h2, frz_len h2⟩ ⟨bindN_lk _ h3, bindN_len _ h3⟩)
  | .set i k e, env, f, h => by
    simp only [exS] at h
    obtain ⟨p, h1, h⟩ := bs h
    obtain ⟨q, h2, h⟩ := bs h
    obtain ⟨e', h3, rfl⟩ := mapnx h
    exact (evA_ll hC e h1).trans (LL.trans ⟨frz_lk h2, frz_len h2⟩ (putG_ll hC _ h3))
  | .unp ts e, env, f, h => by
    simp only [exS] at h
    obtain ⟨p, h1, h⟩ := bs h
    obtain ⟨q, h2, h⟩ := bs h
    split at h
    · obtain ⟨e', h3, rfl⟩ := mapnx h
      exact (evA_ll hC e h1).trans (LL.trans ⟨frz_lk h2, frz_len h2⟩ (putGs_ll hC _ h3))
    · cases h
  | .par ts es, env, f, h => by
    simp only [exS] at h
    obtain ⟨p, h1, h⟩ := bs h
    obtain ⟨q, h2, h⟩ := bs h
    obtain ⟨e', h3, rfl⟩ := mapnx h
    exact (evAs_ll hC es h1).trans (LL.trans ⟨keepAs_lk h2, keepAs_len h2⟩ (putGs_ll hC _ h3))
  | .aug i o e, env, f, h => by
    simp only [exS] at h
    split at h
    · obtain ⟨p, h1, h⟩ := bs h
      obtain ⟨y, h2, h⟩ := bs h
      obtain ⟨e', h3, rfl⟩ := mapnx h
      refine (evA_ll hC e h1).trans ?_
      simp only [augF] at h3
      split at h3
      · obtain ⟨t, _, h3⟩ := bs h3
        exact ⟨putN_lk h3, putN_len h3⟩
      · rename_i xs m ys q
        split at h3
        · rename_i hm
          cases h3; exact ⟨Lk.setOwn q hm.2.1, List.length_set⟩
        · cases h3
      · cases h3
    · cases h
  | .augS i k o e, env, f, h => by
    simp only [exS] at h
    obtain ⟨p, h1, h⟩ := bs h
    obtain ⟨kd, h2, h⟩ := bs h
    split at h
    · obtain ⟨x, h3, h⟩ := bs h
      obtain ⟨q, h4, h⟩ := bs h
      obtain ⟨y, h5, h⟩ := bs h
      obtain ⟨t, h6, h⟩ := bs h
      split at h
      · obtain ⟨e', h7, rfl⟩ := mapnx h
        exact (evA_ll hC k h1).trans ((evA_ll hC e h4).trans ⟨setAt_lk h7, setAt_len h7⟩)
      · cases h
    · cases h
  | .ifs c a b, env, f, h => by
    simp only [exS] at h
    obtain ⟨p, h1, h⟩ := bs h
    obtain ⟨k, h2, h⟩ := bs h
    split at h
    · exact (evA_ll hC c h1).trans (exB_ll fuel a h)
    · exact (evA_ll hC c h1).trans (exB_ll fuel b h)
  | .ifl c a b, env, f, h => by
    simp only [exS] at h
    obtain ⟨p, h1, h⟩ := bs h
    obtain ⟨k, h2, h⟩ := bs h
    split at h
    · exact exB_ll fuel a h
    · exact exB_ll fuel b h
  | .whl c body, env, f, h => by
    simp only [exS] at h
    refine whl_ll hC (fun {e p} g => ?_) (fun {e f} g => exB_ll fuel body g) h
    obtain ⟨a, h1, g⟩ := bs g
    obtain ⟨k, h2, g⟩ := bs g
    cases g
    exact evA_ll hC c (p := a) h1
  | .for tg k es body, env, f, h => by
    simp only [exS] at h
    obtain ⟨p, h1, h⟩ := bs h
    obtain ⟨ds, h2, h⟩ := bs h
    obtain ⟨its, h3, h⟩ := bs h
    obtain ⟨g, h4, h⟩ := bs h
    have l : LL (lockA p.1 p.2) g.env := for_ll hC (fun {x e f} g => by
      obtain ⟨e1, g1, g⟩ := bs g
      exact LL.trans ⟨bindN_lk tg g1, bindN_len tg g1⟩ (exB_ll fuel body g)) h4
    have l0 := evAs_ll hC es h1
    cases g with
    | nx e => cases h; exact l0.trans ⟨lock_lk l.1, unlockA_len.trans (l.2.trans lockA_len)⟩
    | rt t e => cases h; exact l0.trans ⟨lock_lk l.1, unlockA_len.trans (l.2.trans lockA_len)⟩
    | bk e => cases h
    | ct e => cases h
  | .ret e, env, f, h => by
    simp only [exS] at h
    obtain ⟨p, h1, h⟩ := bs h
    obtain ⟨t, h2, h⟩ := bs h
    cases h; exact evA_ll hC e h1
  | .retN, env, f, h => by simp only [exS] at h; cases h; exact LL.refl _
  | .expr e, env, f, h => by
    simp only [exS] at h
    obtain ⟨p, h1, h⟩ := bs h
    cases h; exact evA_ll hC e h1
  | .brk, env, f, h => by simp only [exS] at h; cases h; exact LL.refl _
  | .cont, env, f, h => by simp only [exS] at h; cases h; exact LL.refl _
  | .pass, env, f, h => by simp only [exS] at h; cases h; exact LL.refl _
  | .never, env, f, h => by simp only [exS] at h; cases h
theorem exB_ll (fuel : Nat) : ∀ (s : List S) {env : En} {f : Fl}, exB C fuel s env = some f → LL env f.env
  | [], env, f, h => by simp only [exB] at h; cases h; exact LL.refl _
  | s :: ss, env, f, h => by
    simp only [exB] at h
    obtain ⟨g, h1, h⟩ := bs h
    have l := exS_ll fuel s h1
    cases g with
    | nx e => exact l.trans (exB_ll fuel ss h)
    | rt t e => cases h; exact l
    | bk e => cases h; exact l
    | ct e => cases h; exact l
end
end
theorem callAt_lk (tb : List Fi) : ∀ d, CLk (callAt tb d)
  | 0, f, args, t, outs, h => by cases h
  | d + 1, f, args, t, outs, h => by
    simp only [callAt] at h
    obtain ⟨fi, h1, h⟩ := bs h
    simp only [runF] at h
    split at h
    · rename_i hn
      obtain ⟨g, h2, h⟩ := bs h
      have l := exB_ll (callAt_lk tb d) Fuel fi.body h2
      have fin : ∀ e : En, LL (args ++ List.replicate (fi.ns - fi.np) .un) e → Lk args (e.take fi.np) := fun e l i xs m q => by
        have hi := (List.getElem?_eq_some_iff.mp q).1
        obtain ⟨ys, g1, g2⟩ := l.1 i xs m (by rw [List.getElem?_append_left hi]; exact q)
        exact ⟨ys, by rw [List.getElem?_take_of_lt (by omega)]; exact g1, g2⟩
      cases g with
      | nx e => cases h; exact fin e l
      | rt t e => cases h; exact fin e l
      | bk e => cases h
      | ct e => cases h
    · cases h
end Ev

/-! Ev, part F: calls. -/
namespace Ev
open PySem PySem.Spec PyProof.Rows L2
/-! ### what a def promises: no exception, no repr around it -/
def CXN : CXT := fun _ _ _ _ _ _ => False
def EXN : XK := fun _ _ _ => False
structure FnG (P : Program) (w : World) (K : PySem.W.Frag) (mg : Str → Option Value) (base : Heap) (k : Nat) (f : Addr) (fd : FuncData) (ps : List Str) (sp : List V → Hp → VK → Prop) : Prop where
  len : ∀ vs H Q, sp vs H Q → vs.length = ps.length
  run : ∀ (A : Around) (outer : List Env) (s : Shared) (H : Hp) (args : Args) (us : List Value) (vs : List V) (Q : VK), Room k A → A.guards = some [] → Env0 P w K mg base A outer s H → BindsTo s fd args (ps.zip us) → Vals vs us → sp vs H Q →
    codeAny (model P w) A (.call (.ref f) args) (CR CXN outer P w H s Q EXN) s
theorem FnG.mk' {P : Program} {w : World} {K : PySem.W.Frag} {mg : Str → Option Value} {base : Heap} {k : Nat} {fa : Addr} {nm ql : Str} {prm : Arguments} {bd : List Stmt} {sc : Scope} {dV kV dc pm cdv ct oc : Value} {an od : Option Addr}
    {sl : Array (Option Value)} {N ps : List Str} {sp : List V → Hp → VK → Prop} (hK : K.lookup fa = some ⟨oc, od, .func (PySem.W.fnOf nm ql prm bd sc dV kV dc pm an cdv ct), sl⟩) (hc : PySem.W.codeIn K cdv ql = true) (hS : FnScope N ps sc)
    (len : ∀ vs H Q, sp vs H Q → vs.length = ps.length)
    (hb : ∀ (A : Around) (outer : List Env) (s : Shared) (H : Hp) (vs : List V) (Q : VK), Room k (A.deeper (envOfC ql sc s.heap.objs.size fa cdv)) → (A.deeper (envOfC ql sc s.heap.objs.size fa cdv)).guards = some [] → sp vs H Q →
      ∃ t, PSs (cxOf CXN P w K mg base N ql sc fa cdv A outer s H EXN) bd t ∧ t { nx := fun _ H' => Q .non H', rt := Q } (start N vs) H) :
    FnG P w K mg base (k + 1) fa (PySem.W.fnOf nm ql prm bd sc dV kV dc pm an cdv ct) ps sp where
  len := len
  run A outer s H args us vs Q hr hgd en bt vl q := by
    have inK : K.In s.heap := en.mod.kin.keeps fun b o z => (en.bs b o z).1
    have noL : s.heap.NoLimit := en.mod.nolimit.keeps fun b o z => (en.bs b o z).1
    have kinds : ∀ y ∈ ps.zip us, sc.names.lookup y.1 = some .local ∨ (sc.names.lookup y.1 = some .cell ∧ ((cellsFrom (s.heap.objs.size + 1) sc.names []).lookup y.1).isSome = true) := by
      rintro ⟨n, u⟩ hy
      have := hS.par n (List.of_mem_zip hy).1
      exact this.imp id fun z => ⟨z, PySem.W.cellsFrom_some _ _ _ (.inl z)⟩
    apply codeAny_call_function hr.depth (inK _ _ hK) rfl hS.co hS.gen rfl (PySem.W.codeRec_of inK hc)
    apply bt
    refine wpAny_newFunctionEnv_cells hS.kind kinds ?_
    rintro _ rfl s1 ic
    refine ⟨noL.keeps ic.toInCall.keep, codeAny_func ?_⟩
    obtain ⟨t, pt, ht⟩ := hb A outer s H vs Q (hr.deeper _) hgd q
    have J0 : Inv (cxOf CXN P w K mg base N ql sc fa cdv A outer s H EXN) [] (start N vs) H s1 := inv_start hS hr.hd en (len _ _ _ q) vl ic
    refine wpAny_mono (pt.run [] s1 (start N vs) H _ J0 ht) ?_ fun _ _ z => z
    rintro fl s' hfl
    match fl, hfl with
    | .ret u, ⟨v, σ', H', J, rv, z⟩ => exact ⟨v, H', J.os, J.bare, J.base, J.hok, rv, z⟩
    | .next, ⟨σ', H', J, z⟩ => exact ⟨.non, H', J.os, J.bare, J.base, J.hok, rfl, z⟩
    | .brk, ⟨_, _, _, z⟩ => exact z.elim
    | .cont, ⟨_, _, _, z⟩ => exact z.elim
section
variable {X : Cx} {k : Nat} {f : Addr} {fd : FuncData} {ps : List Str} {sp : List V → Hp → VK → Prop}
theorem FnG.go (F : FnG X.prog X.w X.K X.mg X.base k f fd ps sp) (hr : Room k X.A) (hg : X.A.guards = some []) {args : Args} {us : List Value} {vs : List V} {pins : List (Addr × Obj)} {σ : L2.St} {H : Hp} {s : Shared} {Q : VK}
    (I : Inv X pins σ H s) (hb : BindsTo s fd args (ps.zip us)) (vl : Vals vs us) (q : sp vs H Q) : wpAny (model X.prog X.w) X.A (call (.ref f) args.pos args.kw) (EP X pins σ Q) X.xe s := by
  refine wpAny_call (codeAny_mono (F.run X.A X.stack s H args us vs Q hr hg I.env0 hb vl q) fun r s' z => ?_)
  match r, z with
  | .ok (.ret u), z => exact I.after z
/-- how a call binds: n values by place, the others by the names ks -/
structure KG (fd : FuncData) (ps : List Str) (n : Nat) (ks : List Str) (pm : List Nat) : Prop where
  to : ∀ us ws : List Value, us.length = n → ws.length = ks.length → bindArgs fd ⟨us, ks.zip ws⟩ = pure (ps.zip (pick pm (us ++ ws)))
theorem vals_get {vs : List V} {us : List Value} (h : Vals vs us) : ∀ i : Nat, (vs[i]? = none ∧ us[i]? = none) ∨ ∃ v u, vs[i]? = some v ∧ us[i]? = some u ∧ RelV v u := by
  induction h with
  | nil => exact fun i => .inl ⟨by simp, by simp⟩
  | cons h t ih => intro i; cases i with
    | zero => exact .inr ⟨_, _, rfl, rfl, h⟩
    | succ i => simpa using ih i
theorem vals_pick {vs : List V} {us : List Value} (h : Vals vs us) : ∀ pm, Vals (pick pm vs) (pick pm us)
  | [] => .nil
  | i :: pm => by
    unfold Ev.pick
    rcases vals_get h i with ⟨h1, h2⟩ | ⟨v, u, h1, h2, r⟩
    · rw [List.filterMap_cons, List.filterMap_cons, h1, h2]; exact vals_pick h pm
    · rw [List.filterMap_cons, List.filterMap_cons, h1, h2]; exact .cons r (vals_pick h pm)
/-- the value of a call: names by place, then by keyword -/
def tG (sp : List V → Hp → VK → Prop) (n m : Nat) (pm : List Nat) (t tk : TA) : TE := fun σ H Q => t σ H fun vs H1 => tk σ H1 fun zs H2 => vs.length = n ∧ zs.length = m ∧ sp (pick pm (vs ++ zs)) H2 Q
theorem pe_callG {x : Str} {p pos : Pos} {es : List Expr} {kws : List Keyword} {t tk : TA} {n : Nat} {ks : List Str} {pm : List Nat} (F : FnG X.prog X.w X.K X.mg X.base k f fd ps sp) (hr : Room k X.A) (hgd : X.A.guards = some [])
    (hg : Gl X x) (hm : X.mg x = some (.ref f)) (hk : PySem.W.keepIn X.K (.ref f) = true) (hb : KG fd ps n ks pm) (ha : PA X es t) (hkw : PK X kws tk)
    (hst : ∀ e ∈ es, ∀ y z, e ≠ .Starred y z) (hks : kws.map (·.arg) = ks.map some) (hdb : (x == ("__debug__" : Str)) = false) (h0 : es = [] → ∀ σ H Q, t σ H Q → Q [] H) :
    PE X (.Call (.Name x p) es kws pos) (tG sp n ks.length pm t tk) := by
  have st1 : ∀ es : List Expr, (∀ e ∈ es, ∀ y z, e ≠ .Starred y z) → (backTo pos (starEach es X.env)).any (·.1) = false := by
    intro es
    induction es with
    | nil => intro _; rfl
    | cons e es ih =>
      intro h
      have h1 := ih fun e he => h e (List.mem_cons_of_mem _ he)
      have h2 := h e (List.mem_cons_self ..)
      cases e <;> first | exact h1 | exact absurd rfl (h2 _ _)
  have kw1 : ∀ (kws : List Keyword) (ks : List Str), kws.map (·.arg) = ks.map some → (backToKw pos (keywordEach kws X.env)).all (·.1.isSome) = true ∧ (backToKw pos (keywordEach kws X.env)).filterMap (·.1) = ks ∧ (backToKw pos (keywordEach kws X.env)).any (·.1.isNone) = false := by
    intro kws
    induction kws with
    | nil => intro ks h; cases ks with
      | nil => exact ⟨rfl, rfl, rfl⟩
      | cons k ks => cases h
    | cons kw kws ih => intro ks h; cases ks with
      | nil => cases h
      | cons k ks =>
        obtain ⟨nm, e, kp⟩ := kw
        simp only [List.map_cons, List.cons.injEq] at h
        obtain ⟨rfl, h⟩ := h
        obtain ⟨a1, a2, a3⟩ := ih ks h
        refine ⟨?_, ?_, ?_⟩
        · exact a1
        · exact congrArg (k :: ·) a2
        · exact a3
  obtain ⟨k1, k2, k3⟩ := kw1 kws ks hks
  refine ⟨fun pins s σ H Q I h => ?_⟩
  refine wpAny_Call_Name_kw (ld_glob I hg hm ?_ hdb)
  have fin : ∀ {us ws : List Value} {vs zs : List V} {H2 : Hp} {s2 : Shared}, Inv X pins σ H2 s2 → Vals vs us → Vals zs ws → vs.length = n ∧ zs.length = ks.length ∧ sp (pick pm (vs ++ zs)) H2 Q → X.K.In s2.heap ∧ wpAny (model X.prog X.w) X.A (call (.ref f) us (ks.zip ws)) (EP X pins σ Q) X.xe s2 := fun {us ws vs zs H2 s2} I2 r1 r2 ⟨q1, q2, q3⟩ =>
    ⟨I2.kIn, F.go hr hgd (args := ⟨us, ks.zip ws⟩) I2 (.of_eq (hb.to us ws (r1.length.symm.trans q1) (r2.length.symm.trans q2))) (vals_pick (r1.append r2) pm) q3⟩
  cases es with
  | nil =>
    refine PySem.W.callWith_KW0 (h₀ := X.base) I.ok.mod.kin hk k1 ?_ (by rw [k3]; rfl)
    refine thn (hkw.run pos pins s σ H _ I (h0 rfl _ _ _ h)) fun ws s2 ⟨zs, H2, I2, rz, q2⟩ => ?_
    rw [k2]
    exact fin I2 .nil rz q2
  | cons e es =>
    refine PySem.W.callWith_KW (h₀ := X.base) I.ok.mod.kin hk k1 (thn (ha.run pos pins s σ H _ I h) fun us s1 ⟨vs, H1, I1, r, q⟩ => ?_) (by rw [st1 _ hst, k3]; rfl) (by
      have h2 := hst e (List.mem_cons_self ..)
      cases e <;> first | rfl | exact absurd rfl (h2 _ _))
    refine thn (hkw.run pos pins s1 σ H1 _ I1 q) fun ws s2 ⟨zs, H2, I2, rz, q2⟩ => ?_
    rw [k2]
    exact fin I2 r rz q2
end
end Ev

/-! Ev, part F2: calls, the frames. -/
namespace Ev
open PySem PySem.Spec PyProof.Rows L2
section
variable {K : PySem.W.Frag} {C : Sem0} {X : Cx} {F F' H H' F0 H0 F1 H1 : Hp} {σ : L2.St} {env env' env0 env1 : En} {Q : VK}
theorem evAs_len : ∀ {es : List E} {env : En} {p : List Ag × En}, evAs C es env = some p → p.1.length = es.length
  | [], env, p, h => by simp only [evAs] at h; cases h; rfl
  | e :: es, env, p, h => by
    simp only [evAs] at h
    obtain ⟨a, h1, h⟩ := bs h
    obtain ⟨b, h2, h⟩ := bs h
    cases h
    exact congrArg Nat.succ (evAs_len (p := b) h2)
theorem evAs_app : ∀ {a b : List E} {env : En}, evAs C (a ++ b) env = (evAs C a env).bind fun p => (evAs C b p.2).bind fun q => some (p.1 ++ q.1, q.2)
  | [], b, env => by
    simp only [List.nil_append, evAs, Option.bind_some]
    cases evAs C b env <;> rfl
  | e :: a, b, env => by
    simp only [List.cons_append, evAs]
    cases evA C e env with
    | none => rfl
    | some p =>
      simp only [Option.bind_some]
      rw [evAs_app]
      cases evAs C a p.2 with
      | none => rfl
      | some q =>
        simp only [Option.bind_some]
        cases evAs C b q.2 <;> rfl
theorem frAs_app {vs zs : List V} {as bs : List Ag} (h : vs.length = as.length) : frAs (vs ++ zs) (as ++ bs) = frAs vs as ++ frAs zs bs := by
  induction vs generalizing as with
  | nil => cases as with
    | nil => rfl
    | cons a as => cases h
  | cons v vs ih => cases as with
    | nil => cases h
    | cons a as =>
      simp only [List.cons_append, frAs, List.append_assoc]
      rw [ih (Nat.succ.inj h)]
theorem frA_in {v : V} {a : Ag} {p : Addr} (h : RA K σ F H env H0 v a) (hp : p ∈ frA v a) : H p ≠ none ∧ H0 p = none := by
  match v, a, h, hp with
  | .ref q, .v (.fr xs), ⟨p', vs, h1, h2, h3, h4, h5, h6⟩, hp =>
    have e : p = q := by simpa [frA] using hp
    have e2 : q = p' := V.ref.inj h1
    subst e e2
    exact ⟨(by rw [h2]; exact fun z => (by cases z)), h5⟩
theorem RAs.app {vs zs : List V} {as bs : List Ag} (h : RAs K σ F1 H1 env1 H0 vs as) (S : Se K σ F1 H1 env1 F H env) (t : RAs K σ F H env H1 zs bs) (d0 : ∀ a, H0 a ≠ none → H1 a ≠ none) : RAs K σ F H env H0 (vs ++ zs) (as ++ bs) := by
  induction h with
  | nil => exact t.back d0
  | @cons v vs a as h r n ih =>
    refine .cons (h.mono S) ih fun p hp hq => ?_
    have hq : p ∈ frAs (vs ++ zs) (as ++ bs) := hq
    rw [frAs_app r.len] at hq
    rcases List.mem_append.mp hq with z | z
    · exact n p hp z
    · exact absurd (t.new p z).1 (frA_in h hp).1
theorem tA_app {a b : List E} (h : tA K C (a ++ b) σ H Q') : tA K C a σ H fun vs H1 => tA K C b σ H1 fun zs H2 => Q' (vs ++ zs) H2 := by
  obtain ⟨F, env, ags, env', s, e, q⟩ := h
  rw [evAs_app] at e
  obtain ⟨p, e1, e⟩ := bs e
  obtain ⟨r, e2, e⟩ := bs e
  cases e
  exact ⟨F, env, p.1, p.2, s, e1, fun F1 H1 vs S1 r1 => ⟨F1, p.2, r.1, r.2, S1.sr, e2, fun F2 H2 zs S2 r2 => q F2 H2 _ (S1.trans S2) (r1.app S2 r2 S1.dom)⟩⟩
theorem RAs.get {vs : List V} {as : List Ag} (h : RAs K σ F H env H0 vs as) : ∀ i : Nat, (vs[i]? = none ∧ as[i]? = none) ∨ ∃ v a, vs[i]? = some v ∧ as[i]? = some a ∧ RA K σ F H env H0 v a := by
  induction h with
  | nil => exact fun i => .inl ⟨by simp, by simp⟩
  | cons h t n ih => intro i; cases i with
    | zero => exact .inr ⟨_, _, rfl, rfl, h⟩
    | succ i => simpa using ih i
theorem frAs_get {p : Addr} : ∀ {vs : List V} {as : List Ag}, p ∈ frAs vs as → ∃ (i : Nat) (v : V) (a : Ag), vs[i]? = some v ∧ as[i]? = some a ∧ p ∈ frA v a
  | [], _, h => by simp [frAs] at h
  | _ :: _, [], h => by simp [frAs] at h
  | v :: vs, a :: as, h => by
    simp only [frAs] at h
    rcases List.mem_append.mp h with z | z
    · exact ⟨0, v, a, rfl, rfl, z⟩
    · obtain ⟨i, w, b, h1, h2, h3⟩ := frAs_get z
      exact ⟨i + 1, w, b, by simpa using h1, by simpa using h2, h3⟩
theorem frAs_of {p : Addr} : ∀ {vs : List V} {as : List Ag} {i : Nat} {v : V} {a : Ag}, vs[i]? = some v → as[i]? = some a → p ∈ frA v a → p ∈ frAs vs as
  | [], _, _, _, _, h, _, _ => by simp at h
  | _ :: _, [], _, _, _, _, h, _ => by simp at h
  | v :: vs, a :: as, 0, w, b, h1, h2, h => by
    simp at h1 h2; subst h1 h2
    exact List.mem_append_left _ h
  | v :: vs, a :: as, i + 1, w, b, h1, h2, h => List.mem_append_right _ (frAs_of (i := i) (by simpa using h1) (by simpa using h2) h)
theorem RAs.apart {vs : List V} {as : List Ag} (h : RAs K σ F H env H0 vs as) : ∀ {i j : Nat} {v u : V} {a b : Ag} {p : Addr}, vs[i]? = some v → as[i]? = some a → vs[j]? = some u → as[j]? = some b → p ∈ frA v a → p ∈ frA u b → i = j := by
  induction h with
  | nil => intro i j v u a b p h; simp at h
  | @cons v0 vs a0 as h t n ih =>
    intro i j v u a b p h1 h2 h3 h4 h5 h6
    cases i with
    | zero => cases j with
      | zero => rfl
      | succ j =>
        simp at h1 h2; subst h1 h2
        exact absurd (frAs_of (by simpa using h3) (by simpa using h4) h6) (n p h5)
    | succ i => cases j with
      | zero =>
        simp at h3 h4; subst h3 h4
        exact absurd (frAs_of (by simpa using h1) (by simpa using h2) h5) (n p h6)
      | succ j => exact congrArg Nat.succ (ih (by simpa using h1) (by simpa using h2) (by simpa using h3) (by simpa using h4) h5 h6)
theorem pick_get {α : Type} {l : List α} {i : Nat} {pm : List Nat} {a : α} (h : l[i]? = some a) : pick (i :: pm) l = a :: pick pm l := by unfold pick; rw [List.filterMap_cons, h]
theorem pick_none {α : Type} {l : List α} {i : Nat} {pm : List Nat} (h : l[i]? = none) : pick (i :: pm) l = pick pm l := by unfold pick; rw [List.filterMap_cons, h]
theorem pick_fr {p : Addr} {vs : List V} {as : List Ag} (hl : vs.length = as.length) : ∀ {pm : List Nat}, p ∈ frAs (pick pm vs) (pick pm as) → ∃ j ∈ pm, ∃ v a, vs[j]? = some v ∧ as[j]? = some a ∧ p ∈ frA v a
  | [], h => by simp [pick, frAs] at h
  | i :: pm, h => by
    by_cases hi : i < vs.length
    · rw [pick_get (List.getElem?_eq_getElem hi), pick_get (List.getElem?_eq_getElem (hl ▸ hi))] at h
      simp only [frAs] at h
      rcases List.mem_append.mp h with z | z
      · exact ⟨i, List.mem_cons_self .., _, _, List.getElem?_eq_getElem hi, List.getElem?_eq_getElem (hl ▸ hi), z⟩
      · obtain ⟨j, h1, h2⟩ := pick_fr hl z
        exact ⟨j, List.mem_cons_of_mem _ h1, h2⟩
    · rw [pick_none (List.getElem?_eq_none (by omega)), pick_none (List.getElem?_eq_none (by omega))] at h
      obtain ⟨j, h1, h2⟩ := pick_fr hl h
      exact ⟨j, List.mem_cons_of_mem _ h1, h2⟩
theorem RAs.pick {vs : List V} {as : List Ag} (h : RAs K σ F H env H0 vs as) : ∀ {pm : List Nat}, pm.Nodup → RAs K σ F H env H0 (pick pm vs) (pick pm as)
  | [], _ => .nil
  | i :: pm, hn => by
    have hn' := List.nodup_cons.mp hn
    rcases h.get i with ⟨h1, h2⟩ | ⟨v, a, h1, h2, r⟩
    · rw [pick_none h1, pick_none h2]; exact h.pick hn'.2
    · rw [pick_get h1, pick_get h2]
      refine .cons r (h.pick hn'.2) fun p hp hq => ?_
      obtain ⟨j, hj, u, b, h3, h4, h5⟩ := pick_fr h.len hq
      exact hn'.1 (h.apart h1 h2 h3 h4 hp h5 ▸ hj)
/-! ### the callee's frame -/
theorem frzR_ok : ∀ {rf : List Bool} {as as' : List Ag} {vs : List V} {F : Hp} {env env' : En}, Se K σ F0 H0 env0 F H env → RAs K σ F H env H0 vs as → frzR rf as env = some (as', env') →
    ∃ F', Se K σ F0 H0 env0 F' H env' ∧ RAs K σ F' H env' H0 vs as' ∧ Ex F F' ∧ (∀ q, q ∉ frAs vs as → ¬ Ow σ env q → F q = none → F' q = none) ∧ (∀ q, Ow σ env' q → Ow σ env q) ∧ ∀ q ∈ frAs vs as', q ∈ frAs vs as := by
  intro rf as
  induction as generalizing rf with
  | nil =>
    intro as' vs F env env' S r e
    have h' : some (([] : List Ag), env) = some (as', env') := by cases rf with
      | nil => exact e
      | cons b r => cases b <;> exact e
    cases h'
    cases r
    exact ⟨F, S, .nil, Ex.refl _, fun _ _ _ h => h, fun _ h => h, fun _ h => h⟩
  | cons a as ih =>
    intro as' vs0 F env env' S r e
    cases r with
    | @cons v vs _ _ h t n =>
      have low : ∀ rf', ((frz a env).bind fun p => (frzR rf' as p.2).bind fun q => some (Ag.v (.d p.1) :: q.1, q.2)) = some (as', env') → ∃ F', Se K σ F0 H0 env0 F' H env' ∧ RAs K σ F' H env' H0 (v :: vs) as' ∧ Ex F F' ∧ (∀ q, q ∉ frAs (v :: vs) (a :: as) → ¬ Ow σ env q → F q = none → F' q = none) ∧ (∀ q, Ow σ env' q → Ow σ env q) ∧ ∀ q ∈ frAs (v :: vs) as', q ∈ frAs (v :: vs) (a :: as) := by
        intro rf' e
        obtain ⟨p, e1, e⟩ := bs e
        obtain ⟨q, e2, e⟩ := bs e
        cases e
        obtain ⟨F1, S1, d1, x1, q1, o1⟩ := frz_ok S h e1
        have t1 : RAs K σ F1 H p.2 H0 vs as := RAs.frz1 (F'' := F) x1 (.cons h t n) q1 o1
        obtain ⟨F2, S2, r2, x2, q2, o2, m2⟩ := ih S1 t1 e2
        refine ⟨F2, S2, .cons (d1.ex x2) r2 (fun z hz => by cases v <;> simp [frA] at hz), x1.trans x2, fun z hz ho hf => ?_, fun z ho => o1 z (o2 z ho), fun z hz => ?_⟩
        · simp only [frAs, List.mem_append, not_or] at hz
          exact q2 z hz.2 (fun w => ho (o1 z w)) (q1 z hz.1 ho hf)
        · simp only [frAs] at hz ⊢
          rcases List.mem_append.mp hz with w | w
          · cases v <;> simp [frA] at w
          · exact List.mem_append_right _ (m2 z w)
      match rf with
      | [] => exact low [] e
      | false :: rf => exact low rf e
      | true :: rf =>
        simp only [frzR] at e
        obtain ⟨q, e2, e⟩ := bs e
        cases e
        obtain ⟨F2, S2, r2, x2, q2, o2, m2⟩ := ih S t e2
        have h1 : RAs K σ F H env H0 [v] [a] := .cons h .nil fun _ _ z => by cases z
        have h2 : RAs K σ F2 H q.2 H0 [v] [a] := h1.frz x2 (fun z hz => by
          have hz' : z ∈ frA v a := by simpa [frAs] using hz
          exact q2 z (n z hz') (h1.new z hz).2.1 (h1.new z hz).2.2.2) o2
        cases h2 with
        | cons h3 _ _ =>
          refine ⟨F2, S2, .cons h3 r2 fun z hz hq => n z hz (m2 z hq), x2, fun z hz ho hf => ?_, o2, fun z hz => ?_⟩
          · simp only [frAs, List.mem_append, not_or] at hz
            exact q2 z hz.2 ho hf
          · simp only [frAs] at hz ⊢
            rcases List.mem_append.mp hz with w | w
            · exact List.mem_append_left _ w
            · exact List.mem_append_right _ (m2 z w)
theorem slAs_get : ∀ {as : List Ag} {args : List Sl}, slAs env as = some args → args.length = as.length ∧ ∀ (i : Nat) (s : Sl), args[i]? = some s → ∃ a, as[i]? = some a ∧ slA env a = some s
  | [], args, h => by simp only [slAs] at h; cases h; exact ⟨rfl, fun i s h => by simp at h⟩
  | a :: as, args, h => by
    simp only [slAs] at h
    obtain ⟨x, h1, h⟩ := bs h
    obtain ⟨xs, h2, h⟩ := bs h
    cases h
    obtain ⟨l, g⟩ := slAs_get h2
    refine ⟨congrArg Nat.succ l, fun i s h => ?_⟩
    cases i with
    | zero => simp at h; subst h; exact ⟨a, rfl, h1⟩
    | succ i => obtain ⟨b, g1, g2⟩ := g i s (by simpa using h); exact ⟨b, by simpa using g1, g2⟩
theorem refs_get {j : Nat} : ∀ {as : List Ag}, j ∈ refs as → ∃ i : Nat, as[i]? = some (.r j)
  | .v t :: as, h => by obtain ⟨i, e⟩ := refs_get (as := as) h; exact ⟨i + 1, by simpa using e⟩
  | .r k :: as, h => by
    rcases List.mem_cons.mp h with z | z
    · subst z; exact ⟨0, rfl⟩
    · obtain ⟨i, e⟩ := refs_get (as := as) z; exact ⟨i + 1, by simpa using e⟩
theorem refs_of {j : Nat} : ∀ {as : List Ag} {i : Nat}, as[i]? = some (.r j) → j ∈ refs as
  | [], _, h => by simp at h
  | a :: as, 0, h => by simp at h; subst h; exact List.mem_cons_self ..
  | .v t :: as, i + 1, h => refs_of (as := as) (i := i) (by simpa using h)
  | .r k :: as, i + 1, h => List.mem_cons_of_mem _ (refs_of (as := as) (i := i) (by simpa using h))
theorem refs_inj {j : Nat} : ∀ {as : List Ag} {i i' : Nat}, (refs as).Nodup → as[i]? = some (.r j) → as[i']? = some (.r j) → i = i'
  | [], _, _, _, h, _ => by simp at h
  | a :: as, 0, 0, _, _, _ => rfl
  | a :: as, 0, i + 1, hn, h, h' => by
    simp at h; subst h
    exact absurd (refs_of (i := i) (by simpa using h')) (List.nodup_cons.mp hn).1
  | a :: as, i + 1, 0, hn, h, h' => by
    simp at h'; subst h'
    exact absurd (refs_of (i := i) (by simpa using h)) (List.nodup_cons.mp hn).1
  | .v t :: as, i + 1, i' + 1, hn, h, h' => congrArg Nat.succ (refs_inj (as := as) hn (by simpa using h) (by simpa using h'))
  | .r k :: as, i + 1, i' + 1, hn, h, h' => congrArg Nat.succ (refs_inj (as := as) (List.nodup_cons.mp hn).2 (by simpa using h) (by simpa using h'))
/-- an argument's slot: data, a list just made, a lent one -/
theorem arg_cases {as : List Ag} {vs : List V} {args : List Sl} (s : SR K F H σ env) (r : RAs K σ F H env H0 vs as) (h : slAs env as = some args) {i : Nat} {sl : Sl} (e : args[i]? = some sl) :
    ∃ v a, vs[i]? = some v ∧ as[i]? = some a ∧ ((∃ x, sl = .d x ∧ Dv K F v x) ∨
      (∃ xs p ws, a = .v (.fr xs) ∧ sl = .own xs 0 ∧ v = .ref p ∧ H p = some (.lst ws) ∧ F p = none ∧ Dvs K F ws xs ∧ H0 p = none ∧ ¬ Ow σ env p) ∨
      (∃ j xs m p ws, a = .r j ∧ env[j]? = some (.own xs m) ∧ sl = .own xs (if m ≤ 1 then 1 else 3) ∧ v = .ref p ∧ σ[j]? = some (some (.ref p)) ∧ H p = some (.lst ws) ∧ F p = none ∧ Dvs K F ws xs)) := by
  obtain ⟨a, h1, h2⟩ := (slAs_get h).2 i sl e
  rcases r.get i with ⟨_, h3⟩ | ⟨v, b, h3, h4, ra⟩
  · rw [h1] at h3; cases h3
  · rw [h1] at h4; cases h4
    refine ⟨v, a, h3, h1, ?_⟩
    match a, h2, ra with
    | .v (.d x), h2, ra => cases h2; exact .inl ⟨x, rfl, ra⟩
    | .v (.fr xs), h2, ⟨p, ws, g1, g2, g3, g4, g5, g6⟩ => cases h2; exact .inr (.inl ⟨xs, p, ws, rfl, rfl, g1, g2, g3, g4, g5, g6⟩)
    | .r j, h2, ra =>
      have ra' : σ[j]? = some (some v) := ra
      simp only [slA] at h2
      split at h2
      · rename_i xs m q
        cases h2
        obtain ⟨p, ws, g1, g2, g3, g4⟩ := s.ow j xs m q
        rw [ra'] at g1
        have g1' : v = .ref p := by cases g1; rfl
        exact .inr (.inr ⟨j, xs, m, p, ws, rfl, q, rfl, g1', by rw [ra', g1'], g2, g3, g4⟩)
      · rename_i x q
        cases h2
        obtain ⟨w, g1, g2⟩ := s.dd j x q
        rw [ra'] at g1; cases g1
        exact .inl ⟨x, rfl, g2⟩
      · cases h2
theorem map_some {α : Type} {l : List α} {i : Nat} {v : α} : (l.map some)[i]? = some (some v) ↔ l[i]? = some v := by
  rw [List.getElem?_map]
  cases l[i]? with
  | none => simp
  | some w => simp
/-- the frame at the callee's entry -/
theorem args_sr {as : List Ag} {vs : List V} {args : List Sl} (s : SR K F H σ env) (r : RAs K σ F H env H0 vs as) (hn : (refs as).Nodup) (h : slAs env as = some args) : SR K F H (vs.map some) args where
  fh := s.fh
  len := by rw [List.length_map, r.len, (slAs_get h).1]
  dd i x e := by
    obtain ⟨v, a, h1, h2, c⟩ := arg_cases s r h e
    rcases c with ⟨y, c1, c2⟩ | ⟨xs, p, ws, _, c1, _⟩ | ⟨j, xs, m, p, ws, _, _, c1, _⟩
    · cases c1; exact ⟨v, map_some.mpr h1, c2⟩
    · cases c1
    · cases c1
  ow i xs m e := by
    obtain ⟨v, a, h1, h2, c⟩ := arg_cases s r h e
    rcases c with ⟨y, c1, c2⟩ | ⟨ys, p, ws, _, c1, c2, c3, c4, c5, _⟩ | ⟨j, ys, m', p, ws, _, _, c1, c2, _, c3, c4, c5⟩
    · cases c1
    · cases c1; subst c2; exact ⟨p, ws, map_some.mpr h1, c3, c4, c5⟩
    · cases c1; subst c2; exact ⟨p, ws, map_some.mpr h1, c3, c4, c5⟩
  inj i j xs m ys n p e1 e2 e3 e4 := by
    obtain ⟨v, a, h1, h2, c⟩ := arg_cases s r h e1
    obtain ⟨u, b, h3, h4, d⟩ := arg_cases s r h e2
    rw [map_some, h1] at e3; cases e3
    rw [map_some, h3] at e4; cases e4
    rcases c with ⟨y, c1, c2⟩ | ⟨ys, p1, ws, c0, c1, c2, c3, c4, c5, c6, c7⟩ | ⟨k, ys, m', p1, ws, c0, c6, c1, c2, c7, c3, c4, c5⟩
    · cases c1
    · cases c2
      rcases d with ⟨y, d1, d2⟩ | ⟨ys', p2, ws', d0, d1, d2, d3, d4, d5, d6, d7⟩ | ⟨k', ys', m'', p2, ws', d0, d6, d1, d2, d7, d3, d4, d5⟩
      · cases d1
      · cases d2
        subst c0 d0
        exact r.apart h1 h2 h3 h4 (p := p) (by simp [frA]) (by simp [frA])
      · cases d2
        exact absurd ⟨k', ys', m'', d6, d7⟩ c7
    · cases c2
      rcases d with ⟨y, d1, d2⟩ | ⟨ys', p2, ws', d0, d1, d2, d3, d4, d5, d6, d7⟩ | ⟨k', ys', m'', p2, ws', d0, d6, d1, d2, d7, d3, d4, d5⟩
      · cases d1
      · cases d2
        exact absurd ⟨k, ys, m', c6, c7⟩ d7
      · cases d2
        have := s.inj k k' _ _ _ _ p c6 d6 c7 d7
        subst this
        subst c0 d0
        exact refs_inj hn h2 h4
/-- what a call leaves -/
structure Cs (K : PySem.W.Frag) (vs : List V) (F H : Hp) (args : List Sl) (F' H' : Hp) (outs : List Sl) (v : V) (t : T) : Prop where
  fh : Ex F' H'
  fe : Ex F F'
  keep : ∀ a o, H a = some o → ¬ Ow (vs.map some) args a → H' a = some o
  newf : ∀ a, H a ≠ none → F a = none → ¬ Ow (vs.map some) args a → F' a = none
  dom : ∀ a, H a ≠ none → H' a ≠ none
  lent : ∀ (i : Nat) (xs : List D) (m : Nat) (p : Addr), args[i]? = some (.own xs (m + 1)) → vs[i]? = some (.ref p) → ∃ ys ws k, outs[i]? = some (.own ys (k + 1)) ∧ H' p = some (.lst ws) ∧ F' p = none ∧ Dvs K F' ws ys
  resd : ∀ x, t = .d x → Dv K F' v x
  resf : ∀ xs, t = .fr xs → ∃ p ws, v = .ref p ∧ H' p = some (.lst ws) ∧ F' p = none ∧ Dvs K F' ws xs ∧ (H p = none ∨ ∃ (i : Nat) (ys : List D), args[i]? = some (.own ys 0) ∧ vs[i]? = some (.ref p))
/-- a def's reading: it computes what C says -/
def sF (K : PySem.W.Frag) (C : Sem0) (f : Nat) : List V → Hp → VK → Prop := fun vs H Q => ∃ F args t outs, SR K F H (vs.map some) args ∧ C f args = some (t, outs) ∧ ∀ F' H' v, Cs K vs F H args F' H' outs v t → Q v H'
theorem postA_get : ∀ {as : List Ag} {outs : List Sl} {env env' : En}, (refs as).Nodup → postA as outs env = some env' → (∀ j, j ∉ refs as → env'[j]? = env[j]?) ∧
    ∀ (i j : Nat), as[i]? = some (.r j) → (∃ xs m ys k, env[j]? = some (.own xs m) ∧ outs[i]? = some (.own ys (k + 1)) ∧ env'[j]? = some (.own ys m)) ∨ ∃ x, env[j]? = some (.d x) ∧ env'[j]? = env[j]?
  | [], outs, env, _, hn, h => by
    simp only [postA] at h; cases h
    exact ⟨fun _ _ => rfl, fun i j e => by simp at e⟩
  | .v t :: as, outs, env, env', hn, h => by
    cases outs with
    | nil => simp [postA] at h
    | cons o outs =>
      simp only [postA] at h
      obtain ⟨g1, g2⟩ := postA_get (as := as) hn h
      refine ⟨g1, fun i j e => ?_⟩
      cases i with
      | zero => simp at e
      | succ i => simpa using g2 i j (by simpa using e)
  | .r j0 :: as, outs, env, env', hn, h => by
    have hn' := List.nodup_cons.mp hn
    cases outs with
    | nil => simp [postA] at h
    | cons o outs =>
      simp only [postA] at h
      split at h
      · rename_i xs m ys k q
        obtain ⟨g1, g2⟩ := postA_get (as := as) hn'.2 h
        have hj0 : j0 < env.length := (List.getElem?_eq_some_iff.mp q).1
        have ne : ∀ j, j ≠ j0 → (env.set j0 (.own ys m))[j]? = env[j]? := fun j z => List.getElem?_set_ne (Ne.symm z)
        refine ⟨fun j hj => ?_, fun i j e => ?_⟩
        · simp only [refs, List.mem_cons, not_or] at hj
          rw [g1 j hj.2, ne j hj.1]
        · cases i with
          | zero =>
            simp at e; subst e
            refine .inl ⟨xs, m, ys, k, q, rfl, ?_⟩
            rw [g1 j0 hn'.1, List.getElem?_set_self hj0]
          | succ i =>
            have e' : as[i]? = some (.r j) := by simpa using e
            have hj : j ≠ j0 := fun z => hn'.1 (z ▸ refs_of e')
            have := g2 i j e'
            rw [ne j hj] at this
            simpa using this
      · rename_i x q
        obtain ⟨g1, g2⟩ := postA_get (as := as) hn'.2 h
        refine ⟨fun j hj => ?_, fun i j e => ?_⟩
        · simp only [refs, List.mem_cons, not_or] at hj
          exact g1 j hj.2
        · cases i with
          | zero =>
            simp at e; subst e
            exact .inr ⟨x, q, g1 j0 hn'.1⟩
          | succ i => simpa using g2 i j (by simpa using e)
      · cases h
theorem call_core {f : Nat} {as as' : List Ag} {rf : List Bool} {vs : List V} {args outs : List Sl} {t : T} (S : Se K σ F0 H0 env0 F H env) (r : RAs K σ F H env H0 vs as) (h1 : frzR rf as env = some (as', env1)) (hn : (refs as').Nodup)
    (h2 : slAs env1 as' = some args) (h3 : C f args = some (t, outs)) (h4 : postA as' outs env1 = some env') (q : ∀ F' H' v, Se K σ F0 H0 env0 F' H' env' → RA K σ F' H' env' H0 v (.v t) → Q v H') : sF K C f vs H Q := by
  obtain ⟨F1, S1, r1, _⟩ := frzR_ok S r h1
  obtain ⟨g1, g2⟩ := postA_get hn h4
  have ac : ∀ {i : Nat} {sl : Sl}, args[i]? = some sl → _ := fun {i sl} e => arg_cases S1.sr r1 h2 e
  -- an own address of the callee's frame
  have ow : ∀ a, Ow (vs.map some) args a → (∃ (i : Nat) (v : V) (b : Ag), vs[i]? = some v ∧ as'[i]? = some b ∧ a ∈ frA v b ∧ H0 a = none ∧ ¬ Ow σ env1 a) ∨ ∃ (i j : Nat) (xs : List D) (m : Nat), as'[i]? = some (.r j) ∧ env1[j]? = some (.own xs m) ∧ σ[j]? = some (some (.ref a)) := by
    rintro a ⟨i, xs, m, e1, e2⟩
    obtain ⟨v, b, k1, k2, c⟩ := ac e1
    rw [map_some, k1] at e2; cases e2
    rcases c with ⟨y, c1, c2⟩ | ⟨ys, p1, ws, c0, c1, c2, c3, c4, c5, c6, c7⟩ | ⟨j, ys, m', p1, ws, c0, c6, c1, c2, c7, c3, c4, c5⟩
    · cases c1
    · cases c2; subst c0; exact .inl ⟨i, _, _, k1, k2, by simp [frA], c6, c7⟩
    · cases c2; subst c0; exact .inr ⟨i, j, ys, m', k2, c6, c7⟩
  -- env' by env1
  have back : ∀ (j : Nat) (xs : List D) (m : Nat), env'[j]? = some (.own xs m) → ∃ ys, env1[j]? = some (.own ys m) := fun j xs m e => by
    by_cases hj : j ∈ refs as'
    · obtain ⟨i, hi⟩ := refs_get hj
      rcases g2 i j hi with ⟨zs, m', ys, k, k1, k2, k3⟩ | ⟨x, k1, k2⟩
      · rw [e] at k3; cases k3; exact ⟨zs, k1⟩
      · rw [k2, k1] at e; cases e
    · rw [g1 j hj] at e; exact ⟨xs, e⟩
  have owb : ∀ a, Ow σ env' a → Ow σ env1 a := fun a ⟨j, xs, m, e1, e2⟩ => by
    obtain ⟨ys, e⟩ := back j xs m e1
    exact ⟨j, ys, m, e, e2⟩
  refine ⟨F1, args, t, outs, args_sr S1.sr r1 hn h2, h3, fun F' H' v c => ?_⟩
  have notin : ∀ a o, H0 a = some o → ¬ Ow σ env0 a → ¬ Ow (vs.map some) args a := fun a o h n z => by
    rcases ow a z with ⟨_, _, _, _, _, _, k, _⟩ | ⟨i, j, xs, m, k1, k2, k3⟩
    · rw [h] at k; cases k
    · exact n (S1.ow a ⟨j, xs, m, k2, k3⟩)
  have sr' : SR K F' H' σ env' := by
    refine ⟨c.fh, S1.sr.len.trans (postA_len h4).symm, fun j x e => ?_, fun j xs m e => ?_, fun i j xs m ys n p e1 e2 e3 e4 => ?_⟩
    · have e1 : env1[j]? = some (.d x) := by
        by_cases hj : j ∈ refs as'
        · obtain ⟨i, hi⟩ := refs_get hj
          rcases g2 i j hi with ⟨zs, m', ys, k, k1, k2, k3⟩ | ⟨x', k1, k2⟩
          · rw [e] at k3; cases k3
          · rw [← k2]; exact e
        · rw [← g1 j hj]; exact e
      obtain ⟨v, k1, k2⟩ := S1.sr.dd j x e1
      exact ⟨v, k1, k2.ex c.fe⟩
    · by_cases hj : j ∈ refs as'
      · obtain ⟨i, hi⟩ := refs_get hj
        rcases g2 i j hi with ⟨zs, m', ys, k, k1, k2, k3⟩ | ⟨x', k1, k2⟩
        · rw [e] at k3; cases k3
          obtain ⟨p, ws, p1, p2, p3, p4⟩ := S1.sr.ow j _ _ k1
          rcases r1.get i with ⟨_, z⟩ | ⟨u, b, u1, u2, u3⟩
          · rw [hi] at z; cases z
          · rw [hi] at u2; cases u2
            have u3' : σ[j]? = some (some u) := u3
            rw [p1] at u3'; cases u3'
            have ha : args[i]? = some (.own zs (if m ≤ 1 then 1 else 3)) := by
              have hl : i < args.length := by rw [(slAs_get h2).1]; exact (List.getElem?_eq_some_iff.mp hi).1
              obtain ⟨b, b1, b2⟩ := (slAs_get h2).2 i _ (List.getElem?_eq_getElem hl)
              rw [hi] at b1; cases b1
              simp only [slA, k1] at b2
              rw [List.getElem?_eq_getElem hl, ← b2]
            have ha' : ∃ m', args[i]? = some (.own zs (m' + 1)) := by
              by_cases hm : m ≤ 1
              · exact ⟨0, by rw [ha, if_pos hm]⟩
              · exact ⟨2, by rw [ha, if_neg hm]⟩
            obtain ⟨m', ha'⟩ := ha'
            obtain ⟨ys', ws', k', l1, l2, l3, l4⟩ := c.lent i zs m' p ha' u1
            rw [k2] at l1; cases l1
            exact ⟨p, ws', p1, l2, l3, l4⟩
        · rw [k2, k1] at e; cases e
      · rw [g1 j hj] at e
        obtain ⟨p, ws, p1, p2, p3, p4⟩ := S1.sr.ow j _ _ e
        have hno : ¬ Ow (vs.map some) args p := fun z => by
          rcases ow p z with ⟨_, _, _, _, _, _, _, k⟩ | ⟨i, j', ys, m', k1, k2, k3⟩
          · exact k ⟨j, xs, m, e, p1⟩
          · have := S1.sr.inj j j' _ _ _ _ p e k2 p1 k3
            subst this
            exact hj (refs_of k1)
        exact ⟨p, ws, p1, c.keep p _ p2 hno, c.newf p (by rw [p2]; exact fun z => by cases z) p3 hno, p4.ex c.fe⟩
    · obtain ⟨xs', e1'⟩ := back i _ _ e1
      obtain ⟨ys', e2'⟩ := back j _ _ e2
      exact S1.sr.inj i j _ _ _ _ p e1' e2' e3 e4
  have se : Se K σ F0 H0 env0 F' H' env' := by
    refine ⟨sr', S1.fe.trans c.fe, fun a o h n => ?_, fun a h f n => ?_, fun a h => S1.ow a (owb a h), fun a h => c.dom a (S1.dom a h)⟩
    · exact c.keep a o (S1.keep a o h n) (notin a o h n)
    · cases hh : H0 a with
      | none => exact absurd hh h
      | some o => exact c.newf a (S1.dom a h) (S1.newf a h f n) (notin a o hh n)
  refine q F' H' v se ?_
  cases t with
  | d x => exact c.resd x rfl
  | fr xs =>
    obtain ⟨p, ws, k1, k2, k3, k4, k5⟩ := c.resf xs rfl
    have k6 : H0 p = none ∧ ¬ Ow σ env1 p := by
      rcases k5 with k5 | ⟨i, ys, k5, k7⟩
      · refine ⟨?_, fun z => ?_⟩
        · cases hh : H0 p with
          | none => rfl
          | some o => exact absurd k5 (S1.dom p (by rw [hh]; exact fun z => by cases z))
        · obtain ⟨⟨ws', z'⟩, _⟩ := S1.sr.owH z
          rw [k5] at z'; cases z'
      · obtain ⟨u, b, b1, b2, cc⟩ := ac k5
        rw [k7] at b1; cases b1
        rcases cc with ⟨y, c1, c2⟩ | ⟨ys', p1, ws', c0, c1, c2, c3, c4, c5, c6, c7⟩ | ⟨j, ys', m', p1, ws', c0, c6, c1, c2, c7, c3, c4, c5⟩
        · cases c1
        · cases c2; exact ⟨c6, c7⟩
        · split at c1 <;> cases c1
    exact ⟨p, ws, k1, k2, k3, k4, k6.1, fun z => k6.2 (owb p z)⟩
end
end Ev

namespace Ev
open PySem PySem.Spec PyProof.Rows L2
theorem kw_loop {ps : List Str} {f : Str × Value → List (Str × Value) × List (Str × Value) → Sem (ForInStep (List (Str × Value) × List (Str × Value)))}
    (hf : ∀ x s, ps.contains x.1 = true → (s.lookup x.1).isSome = false → f x (s, []) = pure (.yield (s ++ [x], []))) :
    ∀ (l s : List (Str × Value)), (∀ x ∈ l, ps.contains x.1 = true) → ((s ++ l).map (·.1)).Nodup → forIn l (s, ([] : List (Str × Value))) f = pure (s ++ l, [])
  | [], s, _, _ => by rw [List.append_nil]; rfl
  | x :: l, s, h1, h2 => by
    rw [List.forIn_cons, hf x s (h1 x (List.mem_cons_self ..)) ?_]
    · rw [pure_bind]
      show forIn l (s ++ [x], []) f = _
      have e : s ++ x :: l = s ++ [x] ++ l := by simp
      rw [kw_loop hf l (s ++ [x]) (fun y hy => h1 y (List.mem_cons_of_mem _ hy)) (by rw [← e]; exact h2), e]
    · rw [List.map_append, List.map_cons, List.nodup_append] at h2
      have h3 := h2.2.2
      cases e : s.lookup x.1 with
      | none => rfl
      | some v =>
        have : (x.1, v) ∈ s := PySem.mem_of_lookup e
        exact absurd rfl (h3 x.1 (List.mem_map_of_mem (f := (·.1)) this) x.1 (List.mem_cons_self ..))
theorem lookup_nodup {k : Str} {v : Value} : ∀ {ns : List Str} {vs : List Value} {i : Nat}, ns.Nodup → ns[i]? = some k → vs[i]? = some v → (ns.zip vs).lookup k = some v
  | [], _, _, _, h, _ => by simp at h
  | _ :: _, [], _, _, _, h => by simp at h
  | n :: ns, w :: vs, 0, hn, h1, h2 => by
    simp at h1 h2; subst h1 h2
    simp [List.lookup]
  | n :: ns, w :: vs, i + 1, hn, h1, h2 => by
    have hn' := List.nodup_cons.mp hn
    have h1' : ns[i]? = some k := by simpa using h1
    have : (k == n) = false := by
      rw [beq_eq_false_iff_ne]
      exact fun z => hn'.1 (z ▸ List.mem_of_getElem? h1')
    rw [List.zip_cons_cons, List.lookup_cons, this]
    exact lookup_nodup hn'.2 h1' (by simpa using h2)
theorem map_fst_zip {α β : Type} : ∀ (a : List α) (b : List β), ((a.zip b).map (·.1)).Sublist a
  | [], _ => by simp
  | x :: a, [] => by simp
  | x :: a, y :: b => by simpa using map_fst_zip a b
theorem zip_take {α β : Type} : ∀ (a : List α) (b : List β), a.zip b = (a.take b.length).zip b
  | [], _ => by simp
  | x :: a, [] => by simp
  | x :: a, y :: b => by simpa using zip_take a b
theorem fm_zip {ns : List Str} {vs : List Value} (hn : ns.Nodup) (hl : ns.length = vs.length) : ∀ {ps : List Str} {pm : List Nat}, pm.map (fun i => ns[i]?) = ps.map some → ps.filterMap (fun k => (List.lookup k (ns.zip vs)).map (k, ·)) = ps.zip (pick pm vs)
  | [], pm, h => by simp
  | p :: ps, [], h => by simp at h
  | p :: ps, i :: pm, h => by
    simp only [List.map_cons, List.cons.injEq] at h
    have hi := (List.getElem?_eq_some_iff.mp h.1).1
    have hv : vs[i]? = some vs[i] := List.getElem?_eq_getElem (hl ▸ hi)
    rw [pick_get hv, List.zip_cons_cons, List.filterMap_cons, lookup_nodup hn h.1 hv]
    simp only [Option.map_some]
    rw [fm_zip hn hl h.2]
/-- how names by place and by keyword come to the parameters -/
def kwOk (ps : List Str) (n : Nat) (ks : List Str) (pm : List Nat) : Bool :=
  Nat.ble n ps.length && ks.all (ps.contains ·) && decide (ps.take n ++ ks).Nodup && decide (pm.map (fun i => (ps.take n ++ ks)[i]?) = ps.map some)
theorem kg_of {fd : FuncData} {ps ks : List Str} {n : Nat} {pm : List Nat} (h1 : fd.params.posonlyargs = []) (h2 : fd.params.args.map (·.arg) = ps) (h3 : fd.params.vararg = none) (h4 : fd.params.kwonlyargs = []) (h5 : fd.params.kwarg = none) (h6 : fd.defaults = .none)
    (ck : kwOk ps n ks pm = true) : KG fd ps n ks pm := by
  unfold kwOk at ck
  simp only [Bool.and_eq_true, Nat.ble_eq, decide_eq_true_eq] at ck
  obtain ⟨⟨⟨c1, c2⟩, c3⟩, c4⟩ := ck
  refine ⟨fun us ws l1 l2 => ?_⟩
  have hz : ps.zip us ++ ks.zip ws = (ps.take n ++ ks).zip (us ++ ws) := by
    rw [List.zip_append (by rw [List.length_take]; omega)]
    congr 1
    rw [← l1]
    exact zip_take ps us
  have look : ∀ i : Nat, i < ps.length → ∃ j v, pm[i]? = some j ∧ (us ++ ws)[j]? = some v ∧ ∃ p, ps[i]? = some p ∧ ((ps.take n ++ ks).zip (us ++ ws)).lookup p = some v := by
    intro i hi
    have hl := congrArg List.length c4
    rw [List.length_map, List.length_map] at hl
    have e := congrArg (fun l => l[i]?) c4
    simp only [List.getElem?_map] at e
    have hj : i < pm.length := by omega
    rw [List.getElem?_eq_getElem hj, List.getElem?_eq_getElem hi] at e
    simp only [Option.map_some, Option.some.injEq] at e
    have hlt := (List.getElem?_eq_some_iff.mp e).1
    have hlt2 : pm[i] < (us ++ ws).length := by
      rw [List.length_append] at hlt ⊢
      rw [List.length_take] at hlt
      omega
    exact ⟨pm[i], _, List.getElem?_eq_getElem hj, List.getElem?_eq_getElem hlt2, ps[i], List.getElem?_eq_getElem hi, lookup_nodup c3 e (List.getElem?_eq_getElem hlt2)⟩
  unfold bindArgs
  simp only [h1, h2, h3, h4, h5, h6]
  rw [kw_loop (ps := ps) ?hf _ _ ?a ?b]
  case hf =>
    intro x s e1 e2
    simp only [List.map_nil, e1, e2, Bool.true_or, if_true, Bool.false_eq_true, if_false]
  case a =>
    intro x hx
    have := (List.of_mem_zip (show (x.1, x.2) ∈ ks.zip ws from hx)).1
    exact List.all_eq_true.mp c2 _ this
  case b =>
    simp only [List.map_nil, List.nil_append]
    rw [hz]
    refine List.Sublist.nodup ?_ c3
    exact map_fst_zip _ _
  have hs : seqItems? Value.none = (pure none : Sem (Option (Array Value))) := rfl
  simp only [List.map_nil, List.nil_append, hz, pure_bind, hs, Option.getD_none, List.append_nil]
  have e1 : (decide (us.length > ps.length) && (none : Option Arg).isNone) = false := by
    rw [decide_eq_false (by omega)]; rfl
  have e2 : (List.filter (fun x => (List.lookup x ((ps.take n ++ ks).zip (us ++ ws))).isNone) (List.take (ps.length - (List.drop ((#[] : Array Value).toList.length - ps.length) (#[] : Array Value).toList).length) ps)) = [] := by
    rw [List.filter_eq_nil_iff]
    intro p hp
    have hp := List.mem_of_mem_take hp
    obtain ⟨i, hi, rfl⟩ := List.getElem_of_mem hp
    obtain ⟨j, v, _, _, p', e, e'⟩ := look i hi
    rw [List.getElem?_eq_getElem hi] at e; cases e
    rw [e']; simp
  have e3 : (ps.drop (ps.length - (List.drop ((#[] : Array Value).toList.length - ps.length) (#[] : Array Value).toList).length)).zip (List.drop ((#[] : Array Value).toList.length - ps.length) (#[] : Array Value).toList) = [] := by
    simp
  rw [e1, e2, e3]
  simp only [Bool.false_eq_true, if_false, List.isEmpty_nil, Bool.not_true, List.forIn_nil, pure_bind, Option.isNone_none]
  congr 1
  exact fm_zip c3 (by rw [List.length_append, List.length_append, List.length_take]; omega) c4


section
variable {K : PySem.W.Frag} {C : Sem0} {X : Cx}
/-- keywords' values -/
theorem pk_cons' {nm : Option Str} {kpos : Pos} {e : Expr} {kws : List Keyword} {ir : E} {irs : List E} (ha : PE X e (tE K C ir)) (hr : PK X kws (tA K C irs)) : PK X (⟨nm, e, kpos⟩ :: kws) (tA K C (ir :: irs)) := by
  have q := pk_cons (nm := nm) (kpos := kpos) ha hr
  refine ⟨fun pos pins s σ H Q I h => q.run pos pins s σ H Q I ?_⟩
  obtain ⟨F, env, ags, env', s, e, q⟩ := h
  simp only [evAs] at e
  obtain ⟨p, e1, e⟩ := bs e
  obtain ⟨r, e2, e⟩ := bs e
  cases e
  exact ⟨F, env, p.1, p.2, s, e1, fun F1 H1 v S1 r1 => ⟨F1, p.2, r.1, r.2, S1.sr, e2, fun F2 H2 vs S2 r2 => q F2 H2 (v :: vs) (S1.trans S2) (.cons' r1 S2 r2 S1.dom)⟩⟩
theorem pk_nil' : PK X [] (tA K C []) := by
  refine ⟨fun pos pins s σ H Q I h => pk_nil.run pos pins s σ H Q I ?_⟩
  obtain ⟨F, env, ags, env', s, e, q⟩ := h
  simp only [evAs] at e
  cases e
  exact q F H [] (Se.refl s) .nil
theorem e_call {k f : Nat} {a : Addr} {fd : FuncData} {ps ks : List Str} {x : Str} {p pos : Pos} {es : List Expr} {kws : List Keyword} {irs kirs : List E} {rf : List Bool} {pm : List Nat}
    (Fg : FnG X.prog X.w X.K X.mg X.base k a fd ps (sF K C f)) (hr : Room k X.A) (hgd : X.A.guards = some []) (hg : Gl X x) (hm : X.mg x = some (.ref a)) (hk : PySem.W.keepIn X.K (.ref a) = true) (hb : KG fd ps irs.length ks pm) (hkl : kirs.length = ks.length)
    (ha : PA X es (tA K C irs)) (hkw : PK X kws (tA K C kirs)) (hst : ∀ e ∈ es, ∀ y z, e ≠ .Starred y z) (hks : kws.map (·.arg) = ks.map some) (hdb : (x == ("__debug__" : Str)) = false) (h0 : es = [] → irs = []) (hpm : pm.Nodup) :
    PE X (.Call (.Name x p) es kws pos) (tE K C (.call f rf pm (irs ++ kirs))) := by
  refine PE.imp (pe_callG Fg hr hgd hg hm hk hb ha hkw hst hks hdb (fun z σ H Q h => ?_)) fun σ H Q h => ?_
  · rw [h0 z] at h
    obtain ⟨F, env, ags, env', s, e, q⟩ := h
    simp only [evAs] at e
    cases e
    exact q F H [] (Se.refl s) .nil
  · obtain ⟨F, env, ag, env', s, e, q⟩ := h
    simp only [evA] at e
    obtain ⟨r, e1, e⟩ := bs e
    obtain ⟨z, e2, e⟩ := bs e
    split at e
    · rename_i hn
      obtain ⟨args, e3, e⟩ := bs e
      obtain ⟨w, e4, e⟩ := bs e
      obtain ⟨env2, e5, e⟩ := bs e
      cases e
      rw [evAs_app] at e1
      obtain ⟨p1, g1, e1⟩ := bs e1
      obtain ⟨p2, g2, e1⟩ := bs e1
      cases e1
      refine ⟨F, env, p1.1, p1.2, s, g1, fun F1 H1 vs S1 r1 => ⟨F1, p1.2, p2.1, p2.2, S1.sr, g2, fun F2 H2 zs S2 r2 => ⟨?_, ?_, ?_⟩⟩⟩
      · rw [r1.len, evAs_len g1]
      · rw [r2.len, evAs_len g2, hkl]
      · exact call_core (S1.trans S2) ((r1.app S2 r2 S1.dom).pick hpm) e2 hn e3 e4 e5 q
    · cases e
end
end Ev

/-! Ev, part G0: a tuple read from its end. -/
namespace HT
open PySem PyProof.Rows
open PySem.SeqAt
open PySem.AutoSeq1 (wpAny_loadPart')
open PySem.MeetsSeq PySem.MeetsSeq2 PySem.MeetsSeq3
section
variable {prog : Program} {w : World} {A : Around} {E : Value → Shared → Prop} {s : Shared}
theorem sliceApplied_rev {sl : Addr} {vl vu vs : Value} {n : Nat} {Q : Int × Int × Nat → Shared → Prop} (hs : s.heap.IsSliceOf sl vl vu vs) (pl : IsPart vl none) (pu : IsPart vu none) (ps : IsPart vs (some (-1)))
    (h : Q ((n : Int) - 1, -1, n) s) : wpAny (model prog w) A (Builtin.Slice.sliceApplied (.ref sl) (pure (n : Int))) Q E s := by
  obtain ⟨os, hos, hcs, hds⟩ := id hs
  unfold Builtin.Slice.sliceApplied Builtin.Slice.sliceFields
  refine wpAny_bind (wpAny_bind (wpAny_field hos hds (x := vl) rfl (wpAny_bind (wpAny_field hos hds (x := vu) rfl (wpAny_bind (wpAny_field hos hds (x := vs) rfl (wpAny_pure ?_)))))))
  refine wpAny_bind (slicePart_ ps ?_)
  show wpAny _ _ (if ((-1 : Int) == 0) = true then _ else _) _ _ s
  rw [if_neg (by decide)]
  refine wpAny_bind (slicePart_ pl (wpAny_bind (slicePart_ pu (wpAny_bind (wpAny_pure ?_)))))
  show wpAny _ _ (match Builtin.Slice.sliceAdjust none none (-1) (n : Int) with | (lo, hi) => pure (lo, (-1 : Int), Builtin.Slice.slicePlaces lo hi (-1))) _ _ s
  have e1 : Builtin.Slice.sliceAdjust none none (-1) (n : Int) = ((n : Int) - 1, -1) := rfl
  have e2 : Builtin.Slice.slicePlaces ((n : Int) - 1) (-1) (-1) = n := by
    unfold Builtin.Slice.slicePlaces
    have h1 : ¬ ((-1 : Int) > 0) := by omega
    rw [if_neg h1]
    split
    · rw [show -(-1 : Int) = 1 from rfl, Int.ediv_one]; omega
    · omega
  rw [e1]
  show wpAny _ _ (pure ((n : Int) - 1, (-1 : Int), Builtin.Slice.slicePlaces ((n : Int) - 1) (-1) (-1))) _ _ s
  rw [e2]
  exact wpAny_pure h
theorem fm_congr {α β : Type} {f g : α → Option β} : ∀ {l : List α}, (∀ x ∈ l, f x = g x) → l.filterMap f = l.filterMap g
  | [], _ => rfl
  | x :: l, h => by
    rw [List.filterMap_cons, List.filterMap_cons, h x (List.mem_cons_self ..), fm_congr fun y hy => h y (List.mem_cons_of_mem _ hy)]
theorem pick_rev (xs : Array Value) : ((List.range xs.size).filterMap fun (m : Nat) => xs[(((xs.size : Nat) : Int) - 1 + (m : Int) * (-1)).toNat]?).toArray = xs.toList.reverse.toArray := by
  have h := pick_gen xs.toList.reverse.toArray 0 xs.size
  rw [fm_congr (g := fun (m : Nat) => xs.toList.reverse.toArray[(((0 : Nat) : Int) + (m : Int) * 1).toNat]?), h]
  · show (List.take xs.size xs.toList.reverse).toArray = _
    rw [List.take_of_length_le (by simp)]
  · intro m hm
    have hm' := List.mem_range.mp hm
    have e1 : (((xs.size : Nat) : Int) - 1 + (m : Int) * (-1)).toNat = xs.size - 1 - m := by omega
    have e2 : (((0 : Nat) : Int) + (m : Int) * 1).toNat = m := by omega
    rw [e1, e2]
    simp [List.getElem?_reverse, hm']
theorem getItem_tuple_rev {t sl : Addr} {items : Array Value} {vl vu vs : Value} {Q : Value → Shared → Prop} (ht : IsTup s.heap t items) (hs : s.heap.IsSliceOf sl vl vu vs) (pl : IsPart vl none) (pu : IsPart vu none) (ps : IsPart vs (some (-1)))
    (h : Q (.ref s.heap.objs.size) { s with heap := s.heap.push { cls := .type "tuple", data := .seq items.toList.reverse.toArray } })
    (hsz : items.size ≤ sizeLine) : wpAny (model prog w) A (getItem (.ref t) (.ref sl)) Q E s := by
  have htake : sizeOk (.seq items.toList.reverse.toArray) := by
    show items.toList.reverse.toArray.size ≤ sizeLine
    rw [List.size_toArray, List.length_reverse, Array.length_toList]
    omega
  obtain ⟨os, hos, hcs, hds⟩ := id hs
  have hTs : s.TypeIs (.ref sl) "slice" := ⟨os, hos, hcs⟩
  unfold getItem
  try with_reducible refine wpAny_holding ?_
  first | refine wpAny_bind (wpAny_pure ?_) | skip
  refine wpAny_bind (wpAny_sequenceKey ht.typeIs (by decide) ?_)
  refine wpAny_bind (wpAny_callSpecial?_slot (name := Str.ofString "__getitem__") ht.typeIs PyProof.Rows.slot_tuple_getitem
    (wpAny_call_entry PyProof.Rows.slot_tuple_getitem ht.typeIs entry_tuple_getitem ?_ (args_tuple_getitem _ _)))
  show wpAny _ _ (Builtin.Tuple.tupleItemsOf (.ref t) >>= _) _ _ s
  refine wpAny_bind (tupleItemsOf_ ht ?_)
  refine wpAny_bind (wpAny_typeOf hTs ?_)
  rw [if_pos (by decide)]
  refine wpAny_bind (sliceApplied_rev hs pl pu ps ?_)
  have hno : ¬ (((((items.size : Nat) : Int) - 1) == 0 && (-1 : Int) == 1 && items.size == items.size) = true) := by
    intro q
    rw [Bool.and_eq_true, Bool.and_eq_true] at q
    exact absurd q.1.2 (by decide)
  show wpAny _ _ (if ((((items.size : Nat) : Int) - 1) == 0 && (-1 : Int) == 1 && items.size == items.size) = true then _ else _) _ _ s
  rw [if_neg hno, pick_rev]
  first
    | exact wpAny_bind (m := Builtin.Tuple.tupleExact _) (wpAny_newObj_type (wpAny_pure ⟨_, rfl, wpAny_pure h⟩) htake)
    | exact wpAny_bind (m := Builtin.Tuple.tupleExact _) (wpAny_newObj_type (wpAny_bind (wpAny_pure (wpAny_pure ⟨_, rfl, wpAny_pure h⟩))) htake)
    | exact wpAny_bind (wpAny_bind (m := Builtin.Tuple.tupleExact _) (wpAny_newObj_type (wpAny_pure (wpAny_pure ⟨_, rfl, wpAny_pure h⟩)) htake))
    | exact wpAny_bind (wpAny_bind (m := Builtin.Tuple.tupleExact _) (wpAny_newObj_type (wpAny_pure ⟨_, rfl, wpAny_pure h⟩) htake))
end
end HT
namespace Ev
open PySem PySem.Spec PyProof.Rows L2
def tRevA (K : PySem.W.Frag) (te : TE) : TE := fun σ H Q => te σ H fun x H1 => ∃ a xs, x = .ref a ∧ ((SqL K H1 a xs ∧ ∀ p, H1 p = none → Q (.ref p) (upd H1 p (.lst xs.reverse))) ∨ (SqT K H1 a xs ∧ ∀ p, H1 p = none → Q (.ref p) (upd H1 p (.tup xs.reverse))))
theorem pe_revA {X : Cx} {e : Expr} {te : TE} {k : Nat} {p1 p2 p3 pos : Pos} (he : PE X e te) : PE X (.Subscript e (.Slice none none (some (.UnaryOp .USub (.Constant (.int 1) k p1) p2)) p3) pos) (tRevA X.K te) := by
  refine ⟨fun pins s σ H Q I h => ?_⟩
  refine Subscript_ (thn (he.run pins s σ H _ I h) fun v s1 ⟨x, H1, I1, r1, q1⟩ => ?_)
  obtain ⟨a, xs, ex, q⟩ := q1
  subst ex
  cases r1
  have hst : PO X (some (.UnaryOp .USub (.Constant (.int 1) k p1) p2)) (tPart (tUn (rU fun i => .int (-i)) (tC (.int 1)))) := po_some (pe_un un_neg pe_int)
  refine wpAny_Slice (thn (po_none.run pins s1 σ H1 (fun o H2 => o = none ∧ H2 = H1) I1 ⟨rfl, rfl⟩) fun vl s2 ⟨l, H2, I2, pl, el, e2⟩ => ?_)
  subst el e2
  refine thn (po_none.run pins s2 σ H2 (fun o H3 => o = none ∧ H3 = H2) I2 ⟨rfl, rfl⟩) fun vu s3 ⟨u, H3, I3, pu, eu, e3⟩ => ?_
  subst eu e3
  refine thn (hst.run pins s3 σ H3 (fun o H4 => o = some (-1) ∧ H4 = H3) I3 ⟨1, rfl, -1, rfl, rfl, rfl⟩) fun vs s4 ⟨o, H4, I4, ps, eo, e4⟩ => ?_
  subst eo e4
  have I5 : Inv X pins σ H4 { s4 with heap := s4.heap.push { cls := .type "slice", data := .fields #[vl, vu, vs] } } := I4.kept (t' := s4.toks) fun b ob q => Heap.get?_push_of_some _ q
  show wpAny (model X.prog X.w) X.A (subscriptTail e (.Slice none none (some (.UnaryOp .USub (.Constant (.int 1) k p1) p2)) p3) (.ref a) (.ref s4.heap.objs.size)) (EP X pins σ Q) X.xe { s4 with heap := s4.heap.push { cls := .type "slice", data := .fields #[vl, vu, vs] } }
  rcases q with ⟨hx, q⟩ | ⟨hx, q⟩
  · obtain ⟨its, r, ht, hz⟩ := I5.list hx
    have hlen := r.length
    refine tail_any (ops := [.ref a, .ref s4.heap.objs.size]) ht.isList.typeIs (PySem.slot_list_getitem.lookup) ?_ (by with_unfolding_all rfl)
    refine wpAny_getItem_list_slice ht.isList (Heap.IsSliceOf.new _ vl vu vs) pl pu ps (by decide) ?_ (by rw [List.size_toArray]; omega)
    rw [PySem.W.krv_pick]
    refine ⟨.ref _, _, I5.laid (t' := s4.toks) (o := .lst xs.reverse) (fun b ob q => Heap.get?_push_of_some _ q) (Nat.le_refl _) ?_, rfl, q _ (I5.hok.fresh (Nat.le_refl _))⟩
    exact ⟨by rw [List.length_reverse]; exact hz, _, 0, r.reverse, Heap.get?_push_size _ rfl⟩
  · obtain ⟨its, r, ht, hz⟩ := I5.tuple hx
    have hlen := r.length
    refine tail_any (ops := [.ref a, .ref s4.heap.objs.size]) ht.typeIs (PyProof.Rows.slot_tuple_getitem.lookup) ?_ (by with_unfolding_all rfl)
    refine HT.getItem_tuple_rev ht (Heap.IsSliceOf.new _ vl vu vs) pl pu ps ?_ (by rw [List.size_toArray]; omega)
    refine ⟨.ref _, _, I5.laid (t' := s4.toks) (o := .tup xs.reverse) (fun b ob q => Heap.get?_push_of_some _ q) (Nat.le_refl _) ?_, rfl, q _ (I5.hok.fresh (Nat.le_refl _))⟩
    exact ⟨by rw [List.length_reverse]; exact hz, _, r.reverse, ⟨_, Heap.get?_push_size _ rfl, rfl, _, rfl⟩⟩
end Ev

/-! Ev, part G: operators, displays, subscripts, built-ins, methods. -/
namespace Ev
open PySem PySem.Spec PyProof.Rows L2
section
variable {C : Sem0} {X : Cx} {a b c e : Expr} {ia ib ic : E} {pos : Pos}
theorem e_bin {op : Operator} {o : Op} (ho : OpR X (binaryOp op) (r2 X.K o)) (ha : PE X a (tE X.K C ia)) (hb : PE X b (tE X.K C ib)) : PE X (.BinOp a op b pos) (tE X.K C (.op o [ia, ib])) := PE.imp (pe_op ho ha hb) fun _ _ _ => t2_of
theorem e_un {op : UnaryOp} {o : Op} (ho : UnR X (unaryOp op) (r1 X.K o)) (ha : PE X a (tE X.K C ia)) : PE X (.UnaryOp op a pos) (tE X.K C (.op o [ia])) := PE.imp (pe_un ho ha) fun _ _ _ => t1_of
theorem e_cmp {op : CmpOp} {o : Op} (ho : OpR X (compareOp op) (r2 X.K o)) (ha : PE X a (tE X.K C ia)) (hb : PE X b (tE X.K C ib)) (hm : behindInMarks op b = false) : PE X (.Compare a [op] [b] pos) (tE X.K C (.op o [ia, ib])) := PE.imp (pe_cmpR ho ha hb hm) fun _ _ _ => t2_of
theorem e_chain {op op' : CmpOp} {o o' : Op} (ho : OpR X (compareOp op) (r2 X.K o)) (ho' : OpR X (compareOp op') (r2 X.K o')) (ha : PE X a (tE X.K C ia)) (hb : PE X b (tE X.K C ib)) (hc : PE X c (tE X.K C ic)) (hm : lastMarks [op, op'] [b, c] = false) :
    PE X (.Compare a [op, op'] [b, c] pos) (tE X.K C (.chain o o' ia ib ic)) := PE.imp (pe_chain ho ho' ha hb hc hm) fun _ _ _ => chain_of
theorem chain_bool {K : PySem.W.Frag} {o o' : Op} {env env' : En} {ag : Ag} {k : Bool} (e : evA C (.chain o o' ia ib ic) env = some (ag, env')) (e0 : boolA env' ag = some k) : ag = .v (.d (.bl k)) := by
  simp only [evA] at e
  obtain ⟨p, e1, e⟩ := bs e
  obtain ⟨w, e2, e⟩ := bs e
  obtain ⟨ds, e3, e⟩ := bs e
  obtain ⟨t, e4, e⟩ := bs e
  split at e
  · obtain ⟨z, e5, e⟩ := bs e
    obtain ⟨ds', e6, e⟩ := bs e
    obtain ⟨t', e7, e⟩ := bs e
    cases e
    match t', e0 with
    | .d (.bl b), e0 => cases e0; rfl
  · cases e
    cases e0; rfl
  · cases e
theorem w_chain {op op' : CmpOp} {o o' : Op} (ho : OpR X (compareOp op) (r2 X.K o)) (ho' : OpR X (compareOp op') (r2 X.K o')) (ha : PE X a (tE X.K C ia)) (hb : PE X b (tE X.K C ib)) (hc : PE X c (tE X.K C ic)) (hm : lastMarks [op, op'] [b, c] = false) :
    PT X (.Compare a [op, op'] [b, c] pos) (tT X.K C (.chain o o' ia ib ic)) := by
  refine PT.imp (pt_chain ho ho' ha hb hc hm) fun σ H Q ⟨F, env, ag, env', k, s, e, e0, q⟩ => ?_
  have hag := chain_bool (K := X.K) e e0
  subst hag
  exact chain_of (Q := fun x H' => ∃ k, x = V.bl k ∧ Q k H') ⟨F, env, _, env', s, e, fun F1 H1 v S1 r1 => ⟨k, by cases r1; rfl, q F1 H1 S1⟩⟩
/-! ### is None, is True -/
theorem isN_ok {K : PySem.W.Frag} {F H : Hp} {v : V} {d : D} {t : T} (r : Rv K F H v d) (e : opF .isN [d] = some t) : t = .d (.bl (decide (v = .non))) := by
  cases d with
  | non => rw [r.non]; exact bD_eq e
  | fn f => cases e
  | scr f => cases e
  | bl x => rw [r.bl]; exact bD_eq e
  | int x => rw [r.int]; exact bD_eq e
  | str x => rw [r.str]; exact bD_eq e
  | tup x =>
    rcases r with r | ⟨p, _, _, rfl, h, _⟩
    · cases r; exact bD_eq e
    · cases h
  | lst x =>
    rcases r with r | ⟨p, _, _, rfl, h, _⟩
    · cases r; exact bD_eq e
    · exact bD_eq e
theorem notN_ok {K : PySem.W.Frag} {F H : Hp} {v : V} {d : D} {t : T} (r : Rv K F H v d) (e : opF .notN [d] = some t) : t = .d (.bl (!decide (v = .non))) := by
  cases d with
  | non => rw [r.non]; exact bD_eq e
  | fn f => cases e
  | scr f => cases e
  | bl x => rw [r.bl]; exact bD_eq e
  | int x => rw [r.int]; exact bD_eq e
  | str x => rw [r.str]; exact bD_eq e
  | tup x =>
    rcases r with r | ⟨p, _, _, rfl, h, _⟩
    · cases r; exact bD_eq e
    · cases h
  | lst x =>
    rcases r with r | ⟨p, _, _, rfl, h, _⟩
    · cases r; exact bD_eq e
    · exact bD_eq e
theorem one_ev {K : PySem.W.Frag} {o : Op} {σ : L2.St} {H : Hp} {Q : VK} (h : tE K C (.op o [ia]) σ H Q) : tE K C ia σ H fun x H1 => ∃ F d t, Ex F H1 ∧ Rv K F H1 x d ∧ opF o [d] = some t ∧ ∀ F' H' v, Nw F H1 F' H' → RT K F' H' H1 v t → Q v H' := by
  obtain ⟨F, env, ag, env', s, e, q⟩ := t1_of h
  refine ⟨F, env, ag, env', s, e, fun F' H' v S r => ?_⟩
  obtain ⟨F1, ds, t, x1, x2, x3, x4⟩ := q F' H' v S r
  obtain ⟨d, rfl, rd⟩ := one_of x2
  exact ⟨F1, d, t, x1, rd, x3, x4⟩
theorem PE.tEimp {K : PySem.W.Frag} {σ : L2.St} {H : Hp} {Q Q' : VK} (h : tE K C ia σ H Q) (f : ∀ v H', Q v H' → Q' v H') : tE K C ia σ H Q' := by
  obtain ⟨F, env, ag, env', s, e, q⟩ := h
  exact ⟨F, env, ag, env', s, e, fun F' H' v S r => f _ _ (q F' H' v S r)⟩
theorem e_isN {j : Nat} {pos' : Pos} (ha : PE X a (tE X.K C ia)) : PE X (.Compare a [.Is] [.Constant .none j pos'] pos) (tE X.K C (.op .isN [ia])) := by
  refine PE.imp (pe_cmp (pc_isN ha) (nomark _)) fun σ H Q h => ?_
  refine PE.tEimp (one_ev h) fun v H' ⟨F, d, t, ex, rd, e, q⟩ => ?_
  have := isN_ok rd e
  subst this
  exact q F H' _ (Nw.refl ex) (.bl _)
theorem e_notN {j : Nat} {pos' : Pos} (ha : PE X a (tE X.K C ia)) : PE X (.Compare a [.IsNot] [.Constant .none j pos'] pos) (tE X.K C (.op .notN [ia])) := by
  refine PE.imp (pe_cmp (pc_notN ha) (nomark _)) fun σ H Q h => ?_
  refine PE.tEimp (one_ev h) fun v H' ⟨F, d, t, ex, rd, e, q⟩ => ?_
  have := notN_ok rd e
  subst this
  exact q F H' _ (Nw.refl ex) (.bl _)
/-- a comparison that is no in, no chain, as a test: by its value -/
theorem op_w {K : PySem.W.Frag} {o : Op} {irs : List E} {σ : L2.St} {H : Hp} {Q : Bool → Hp → Prop} (h : tT K C (.op o irs) σ H Q) : tE K C (.op o irs) σ H fun x H1 => ∃ k, x = .bl k ∧ Q k H1 := by
  obtain ⟨F, env, ag, env', k, s, e, e0, q⟩ := h
  have hag := op_bool e e0
  subst hag
  exact ⟨F, env, _, env', s, e, fun F1 H1 v S1 r1 => ⟨k, by cases r1; rfl, q F1 H1 S1⟩⟩
theorem w_isN {j : Nat} {pos' : Pos} (ha : PE X a (tE X.K C ia)) : PT X (.Compare a [.Is] [.Constant .none j pos'] pos) (tT X.K C (.op .isN [ia])) := by
  refine PT.imp (pt_cmp (pc_isN ha) (nomark _)) fun σ H Q h => ?_
  refine PE.tEimp (one_ev (op_w h)) fun v H' ⟨F, d, t, ex, rd, e, q⟩ => ?_
  have := isN_ok rd e
  subst this
  obtain ⟨k, e1, e2⟩ := q F H' _ (Nw.refl ex) (.bl _)
  exact ⟨k, e1, e2⟩
theorem w_notN {j : Nat} {pos' : Pos} (ha : PE X a (tE X.K C ia)) : PT X (.Compare a [.IsNot] [.Constant .none j pos'] pos) (tT X.K C (.op .notN [ia])) := by
  refine PT.imp (pt_cmp (pc_notN ha) (nomark _)) fun σ H Q h => ?_
  refine PE.tEimp (one_ev (op_w h)) fun v H' ⟨F, d, t, ex, rd, e, q⟩ => ?_
  have := notN_ok rd e
  subst this
  obtain ⟨k, e1, e2⟩ := q F H' _ (Nw.refl ex) (.bl _)
  exact ⟨k, e1, e2⟩
theorem c_isB : OpR X (compareOp .Is) (r2 X.K .isB) := by
  intro pins s σ H x y v u Q I rx ry ⟨F, ds, t, ex, rv, e, q⟩
  obtain ⟨d1, d2, rfl, r1, r2⟩ := two_of rv
  match d1, d2, r1, r2, e with
  | .bl i, .bl j, r1, r2, e =>
    refine op_isBl pins s σ H x y v u Q I rx ry ⟨i, j, r1.bl, r2.bl, ?_⟩
    have := bD_eq e
    subst this
    refine q F H _ (Nw.refl ex) ?_
    have : decide (i = j) = (i == j) := by cases i <;> cases j <;> rfl
    rw [this]; exact .bl _
theorem c_notB : OpR X (compareOp .IsNot) (r2 X.K .notB) := by
  intro pins s σ H x y v u Q I rx ry ⟨F, ds, t, ex, rv, e, q⟩
  obtain ⟨d1, d2, rfl, r1, r2⟩ := two_of rv
  match d1, d2, r1, r2, e with
  | .bl i, .bl j, r1, r2, e =>
    refine op_notBl pins s σ H x y v u Q I rx ry ⟨i, j, r1.bl, r2.bl, ?_⟩
    have := bD_eq e
    subst this
    refine q F H _ (Nw.refl ex) ?_
    have : (!decide (i = j)) = (!(i == j)) := by cases i <;> cases j <;> rfl
    rw [this]; exact .bl _
/-! ### displays -/
theorem frzs_length : ∀ {as : List Ag} {env env' : En} {xs : List D}, frzs as env = some (xs, env') → xs.length = as.length
  | [], env, _, xs, h => by cases h; rfl
  | a :: as, env, _, xs, h => by
    simp only [frzs] at h
    obtain ⟨p, h1, h⟩ := bs h
    obtain ⟨q, h2, h⟩ := bs h
    cases h
    exact congrArg Nat.succ (frzs_length (xs := q.1) (env' := q.2) h2)
variable {es : List Expr} {irs : List E}
theorem e_tup {k : Nat} (ha : PA X es (tA X.K C irs)) : PE X (.Tuple es k pos) (tE X.K C (.tup irs)) := by
  refine PE.imp (pe_tup ha) fun σ H Q ⟨F, env, ag, env', s, e, q⟩ => ?_
  simp only [evA] at e
  obtain ⟨p, e1, e⟩ := bs e
  obtain ⟨r, e2, e⟩ := bs e
  split at e
  · rename_i hl
    cases e
    refine ⟨F, env, p.1, p.2, s, e1, fun F1 H1 vs S1 r1 => ⟨?_, fun z hz => ?_⟩⟩
    · rw [line_eq, r1.len, ← frzs_length e2]; exact hl
    · obtain ⟨F2, S2, d2, x2⟩ := frzs_ok S1 r1 e2
      exact fin_tup (F := F2) S2.sr.fh (fun F' H' v n rt => q F' H' v (S2.trans (Se.nw S2.sr n)) (RA.of_RT S2.sr n rt S2.dom)) hz d2
  · cases e
theorem e_lst (ha : PA X es (tA X.K C irs)) : PE X (.List es pos) (tE X.K C (.lst irs)) := by
  refine PE.imp (pe_lst ha) fun σ H Q ⟨F, env, ag, env', s, e, q⟩ => ?_
  simp only [evA] at e
  obtain ⟨p, e1, e⟩ := bs e
  obtain ⟨r, e2, e⟩ := bs e
  split at e
  · rename_i hl
    cases e
    refine ⟨F, env, p.1, p.2, s, e1, fun F1 H1 vs S1 r1 => ⟨?_, fun z hz => ?_⟩⟩
    · rw [line_eq, r1.len, ← frzs_length e2]; exact hl
    · obtain ⟨F2, S2, d2, x2⟩ := frzs_ok S1 r1 e2
      exact fin_lst (F := F2) S2.sr.fh (fun F' H' v n rt => q F' H' v (S2.trans (Se.nw S2.sr n)) (RA.of_RT S2.sr n rt S2.dom)) hz d2
  · cases e
/-! ### subscripts -/
theorem e_ix (ha : PE X a (tE X.K C ia)) (hb : PE X b (tE X.K C ib)) (hs : PlainIx b) : PE X (.Subscript a b pos) (tE X.K C (.op .ix [ia, ib])) := PE.imp (pe_ix ix_ok ha hb hs) fun _ _ _ => t2_of
theorem evAs_three {ia ib ic : E} {ags : List Ag} {env env' : En} (e : evAs C [ia, ib, ic] env = some (ags, env')) : ∃ p q r, evA C ia env = some p ∧ evA C ib p.2 = some q ∧ evA C ic q.2 = some r ∧ ags = [p.1, q.1, r.1] ∧ env' = r.2 := by
  simp only [evAs] at e
  obtain ⟨p, e1, e⟩ := bs e
  obtain ⟨r, e2, e⟩ := bs e
  obtain ⟨q, e3, e2⟩ := bs e2
  obtain ⟨r', e4, e2⟩ := bs e2
  obtain ⟨z, e5, e4⟩ := bs e4
  simp only [Option.bind_some] at e4
  cases e4; cases e2; cases e
  exact ⟨p, q, z, e1, e3, e5, rfl, rfl⟩
theorem rdA_int {K : PySem.W.Frag} {σ : L2.St} {F H H0 : Hp} {env : En} {v : V} {ag : Ag} {i : Int} (s : SR K F H σ env) (r : RA K σ F H env H0 v ag) (e : rdA env ag = some (.int i)) : v = .int i := (r.rd s e).int
theorem rdAs_three {env : En} {x y z : Ag} {ds : List D} (e : rdAs env [x, y, z] = some ds) : ∃ a b c, rdA env x = some a ∧ rdA env y = some b ∧ rdA env z = some c ∧ ds = [a, b, c] := by
  simp only [rdAs] at e
  obtain ⟨a, e1, e⟩ := bs e
  obtain ⟨r, e2, e⟩ := bs e
  obtain ⟨b, e3, e2⟩ := bs e2
  obtain ⟨r', e4, e2⟩ := bs e2
  obtain ⟨c, e5, e4⟩ := bs e4
  simp only [Option.bind_some] at e4
  cases e4; cases e2; cases e
  exact ⟨a, b, c, e1, e3, e5, rfl⟩
theorem rdAs_two {env : En} {x y : Ag} {ds : List D} (e : rdAs env [x, y] = some ds) : ∃ a b, rdA env x = some a ∧ rdA env y = some b ∧ ds = [a, b] := by
  simp only [rdAs] at e
  obtain ⟨a, e1, e⟩ := bs e
  obtain ⟨r, e2, e⟩ := bs e
  obtain ⟨b, e3, e2⟩ := bs e2
  simp only [Option.bind_some] at e2
  cases e2; cases e
  exact ⟨a, b, e1, e3, rfl⟩
theorem rdAs_one {env : En} {x : Ag} {ds : List D} (e : rdAs env [x] = some ds) : ∃ a, rdA env x = some a ∧ ds = [a] := by
  simp only [rdAs] at e
  obtain ⟨a, e1, e⟩ := bs e
  simp only [Option.bind_some] at e
  cases e
  exact ⟨a, e1, rfl⟩
/-- what a slice gives, as rCut wants it -/
def CutOf (d : D) (lo hi : Option Int) (t : T) : Prop := (∃ xs, d = .lst xs ∧ t = .fr (cutD xs lo hi)) ∨ (∃ ns, d = .scr ns ∧ t = .fr (cutD (ns.map .int) lo hi)) ∨ ∃ xs, d = .tup xs ∧ t = .d (.tup (cutD xs lo hi))
theorem cut_tt {d a b : D} {t : T} (e : opF (.sl true true) [d, a, b] = some t) : ∃ i j, a = .int i ∧ b = .int j ∧ CutOf d (some i) (some j) t := by
  match d, a, b, e with
  | .lst xs, .int i, .int j, e => exact ⟨i, j, rfl, rfl, .inl ⟨xs, rfl, (Option.some.inj e).symm⟩⟩
  | .scr xs, .int i, .int j, e => exact ⟨i, j, rfl, rfl, .inr (.inl ⟨xs, rfl, (Option.some.inj e).symm⟩)⟩
  | .tup xs, .int i, .int j, e => exact ⟨i, j, rfl, rfl, .inr (.inr ⟨xs, rfl, (Option.some.inj e).symm⟩)⟩
theorem cut_tf {d a : D} {t : T} (e : opF (.sl true false) [d, a] = some t) : ∃ i, a = .int i ∧ CutOf d (some i) none t := by
  match d, a, e with
  | .lst xs, .int i, e => exact ⟨i, rfl, .inl ⟨xs, rfl, (Option.some.inj e).symm⟩⟩
  | .scr xs, .int i, e => exact ⟨i, rfl, .inr (.inl ⟨xs, rfl, (Option.some.inj e).symm⟩)⟩
  | .tup xs, .int i, e => exact ⟨i, rfl, .inr (.inr ⟨xs, rfl, (Option.some.inj e).symm⟩)⟩
theorem cut_ft {d a : D} {t : T} (e : opF (.sl false true) [d, a] = some t) : ∃ i, a = .int i ∧ CutOf d none (some i) t := by
  match d, a, e with
  | .lst xs, .int i, e => exact ⟨i, rfl, .inl ⟨xs, rfl, (Option.some.inj e).symm⟩⟩
  | .scr xs, .int i, e => exact ⟨i, rfl, .inr (.inl ⟨xs, rfl, (Option.some.inj e).symm⟩)⟩
  | .tup xs, .int i, e => exact ⟨i, rfl, .inr (.inr ⟨xs, rfl, (Option.some.inj e).symm⟩)⟩
theorem op_ev {o : Op} {irs : List E} {env env' : En} {ag : Ag} (e : evA C (.op o irs) env = some (ag, env')) : ∃ p ds t, evAs C irs env = some p ∧ rdAs p.2 p.1 = some ds ∧ opF o ds = some t ∧ ag = .v t ∧ env' = p.2 := by
  simp only [evA] at e
  obtain ⟨p, e1, e⟩ := bs e
  obtain ⟨ds, e2, e⟩ := bs e
  obtain ⟨t, e3, e⟩ := bs e
  cases e
  exact ⟨p, ds, t, e1, e2, e3, rfl, rfl⟩
/-- an int, read at once -/
theorem e_idI (ha : PE X a (tE X.K C ia)) : PE X a (tE X.K C (.op .idI [ia])) := by
  refine PE.imp ha fun σ H Q h => ?_
  refine PE.tEimp (one_ev h) fun v H' ⟨F, d, t, ex, rd, e, q⟩ => ?_
  match d, rd, e with
  | .int i, rd, e =>
    have := iD_eq e
    subst this
    rw [rd.int]
    exact q F H' _ (Nw.refl ex) (.int i)
theorem idI_ev {env env' : En} {ag : Ag} (e : evA C (.op .idI [ia]) env = some (ag, env')) : ∃ i, ag = .v (.d (.int i)) := by
  obtain ⟨p, ds, t, e1, e2, e3, rfl, rfl⟩ := op_ev e
  match ds, e3 with
  | [.int i], e3 => exact ⟨i, by rw [iD_eq e3]⟩
theorem idI_ra {K : PySem.W.Frag} {σ : L2.St} {F H H0 : Hp} {env : En} {v : V} {i : Int} (r : RA K σ F H env H0 v (.v (.d (.int i)))) : v = .int i := by cases r; rfl
variable {p2 : Pos}
theorem e_slTT {lo hi : Expr} (he : PE X a (tE X.K C ia)) (hl : PE X lo (tE X.K C ib)) (hu : PE X hi (tE X.K C ic)) : PE X (.Subscript a (.Slice (some lo) (some hi) none p2) pos) (tE X.K C (.op (.sl true true) [ia, .op .idI [ib], .op .idI [ic]])) := by
  refine PE.imp (pe_slice sl_ok he (po_some (e_idI hl)) (po_some (e_idI hu))) fun σ H Q ⟨F, env, ag, env', s, e, q⟩ => ?_
  obtain ⟨w, ds, t, e1, e2, e3, rfl, rfl⟩ := op_ev e
  obtain ⟨x, y, z, g1, g2, g3, h1, h2⟩ := evAs_three (show evAs C [ia, .op .idI [ib], .op .idI [ic]] env = some (w.1, w.2) from e1)
  obtain ⟨i, hi'⟩ := idI_ev (show evA C _ _ = some (y.1, y.2) from g2)
  obtain ⟨j, hj'⟩ := idI_ev (show evA C _ _ = some (z.1, z.2) from g3)
  rw [h1, hi', hj'] at e2
  obtain ⟨d1, d2, d3, k1, k2, k3, rfl⟩ := rdAs_three e2
  cases k2; cases k3
  obtain ⟨i', j', z1, z2, ct⟩ := cut_tt e3
  cases z1; cases z2
  rw [h2] at k1
  refine ⟨F, env, x.1, x.2, s, g1, fun F1 H1 v S1 r1 => ⟨F1, x.2, y.1, y.2, S1.sr, g2, fun F2 H2 u S2 r2 => ⟨i, idI_ra (hi' ▸ r2), ⟨F2, y.2, z.1, z.2, S2.sr, g3, fun F3 H3 w' S3 r3 => ⟨j, idI_ra (hj' ▸ r3), ?_⟩⟩⟩⟩⟩
  have S := (S1.trans S2).trans S3
  refine ⟨F3, d1, t, S3.sr.fh, ((r1.mono S2).mono S3).rd S3.sr k1, ct, fun F' H' v n rt => ?_⟩
  exact q F' H' v (h2 ▸ S.trans (Se.nw S.sr n)) (h2 ▸ RA.of_RT S.sr n rt S.dom)
theorem e_slTF {lo : Expr} (he : PE X a (tE X.K C ia)) (hl : PE X lo (tE X.K C ib)) : PE X (.Subscript a (.Slice (some lo) none none p2) pos) (tE X.K C (.op (.sl true false) [ia, .op .idI [ib]])) := by
  refine PE.imp (pe_slice sl_ok he (po_some (e_idI hl)) po_none) fun σ H Q ⟨F, env, ag, env', s, e, q⟩ => ?_
  obtain ⟨w, ds, t, e1, e2, e3, rfl, rfl⟩ := op_ev e
  obtain ⟨x, y, g1, g2, h1, h2⟩ := evAs_two (show evAs C [ia, .op .idI [ib]] env = some (w.1, w.2) from e1)
  obtain ⟨i, hi'⟩ := idI_ev (show evA C _ _ = some (y.1, y.2) from g2)
  rw [h1, hi'] at e2
  obtain ⟨d1, d2, k1, k2, rfl⟩ := rdAs_two e2
  cases k2
  obtain ⟨i', z1, ct⟩ := cut_tf e3
  cases z1
  rw [h2] at k1
  refine ⟨F, env, x.1, x.2, s, g1, fun F1 H1 v S1 r1 => ⟨F1, x.2, y.1, y.2, S1.sr, g2, fun F2 H2 u S2 r2 => ⟨i, idI_ra (hi' ▸ r2), ?_⟩⟩⟩
  have S := S1.trans S2
  refine ⟨F2, d1, t, S2.sr.fh, (r1.mono S2).rd S2.sr k1, ct, fun F' H' v n rt => ?_⟩
  exact q F' H' v (h2 ▸ S.trans (Se.nw S.sr n)) (h2 ▸ RA.of_RT S.sr n rt S.dom)
theorem e_slFT {hi : Expr} (he : PE X a (tE X.K C ia)) (hl : PE X hi (tE X.K C ib)) : PE X (.Subscript a (.Slice none (some hi) none p2) pos) (tE X.K C (.op (.sl false true) [ia, .op .idI [ib]])) := by
  refine PE.imp (pe_slice sl_ok he po_none (po_some (e_idI hl))) fun σ H Q ⟨F, env, ag, env', s, e, q⟩ => ?_
  obtain ⟨w, ds, t, e1, e2, e3, rfl, rfl⟩ := op_ev e
  obtain ⟨x, y, g1, g2, h1, h2⟩ := evAs_two (show evAs C [ia, .op .idI [ib]] env = some (w.1, w.2) from e1)
  obtain ⟨i, hi'⟩ := idI_ev (show evA C _ _ = some (y.1, y.2) from g2)
  rw [h1, hi'] at e2
  obtain ⟨d1, d2, k1, k2, rfl⟩ := rdAs_two e2
  cases k2
  obtain ⟨i', z1, ct⟩ := cut_ft e3
  cases z1
  rw [h2] at k1
  refine ⟨F, env, x.1, x.2, s, g1, fun F1 H1 v S1 r1 => ⟨F1, x.2, y.1, y.2, S1.sr, g2, fun F2 H2 u S2 r2 => ⟨i, idI_ra (hi' ▸ r2), ?_⟩⟩⟩
  have S := S1.trans S2
  refine ⟨F2, d1, t, S2.sr.fh, (r1.mono S2).rd S2.sr k1, ct, fun F' H' v n rt => ?_⟩
  exact q F' H' v (h2 ▸ S.trans (Se.nw S.sr n)) (h2 ▸ RA.of_RT S.sr n rt S.dom)
theorem e_rev {k : Nat} {p1 p3 : Pos} (he : PE X a (tE X.K C ia)) : PE X (.Subscript a (.Slice none none (some (.UnaryOp .USub (.Constant (.int 1) k p1) p2)) p3) pos) (tE X.K C (.op .rev [ia])) := by
  refine PE.imp (pe_revA he) fun σ H Q h => ?_
  refine PE.tEimp (one_ev h) fun v H' ⟨F, d, t, ex, rd, e, q⟩ => ?_
  match d, rd, e with
  | .lst xs, rd, e =>
    cases e
    obtain ⟨p, vs, rfl, hp, hd⟩ := rd.lst ex
    exact ⟨p, vs, rfl, .inl ⟨.inl (.inl hp), fun z hz => fin_lst ex q hz hd.rev⟩⟩
  | .tup xs, rd, e =>
    cases e
    obtain ⟨p, vs, rfl, hp, hpF, hd⟩ := rd.tup ex
    exact ⟨p, vs, rfl, .inr ⟨hp, fun z hz => fin_tup ex q hz hd.rev⟩⟩
/-! ### built-ins -/
theorem hst_of {e : Expr} {es : List Expr} (h : ∀ y z, e ≠ .Starred y z) (env : Env) : starEach (e :: es) env = (false, eval e env) :: starEach es env := by
  cases e <;> first | rfl | exact absurd rfl (h _ _)
theorem any_of {pos : Pos} (env : Env) : ∀ {es : List Expr}, (∀ e ∈ es, ∀ y z, e ≠ .Starred y z) → (backTo pos (starEach es env)).any (·.1) = false
  | [], _ => rfl
  | e :: es, h => by
    have h1 := any_of (pos := pos) env fun e he => h e (List.mem_cons_of_mem _ he)
    rw [hst_of (h e (List.mem_cons_self ..))]
    exact h1
theorem e_biB {x : Str} {id : String} {o : Op} {p : Pos} (hc : CallR X (.builtin id) (rO X.K o)) (hg : Gl X x) (hm : X.mg x = none) (hv : bootBuiltins x = some (.builtin id)) (ha : PA X (e :: es) (tA X.K C irs)) (hst : ∀ e' ∈ e :: es, ∀ y z, e' ≠ .Starred y z)
    (hn : x ≠ "__name__") (hdb : (x == ("__debug__" : Str)) = false) : PE X (.Call (.Name x p) (e :: es) [] pos) (tE X.K C (.op o irs)) :=
  PE.imp (pe_callB hc hg hm hv ha hn hdb (hst_of (hst e (List.mem_cons_self ..)) _) (any_of _ fun e he => hst e (List.mem_cons_of_mem _ he))) fun _ _ _ => tB_of
theorem e_biT {x : Str} {T : String} {o : Op} {p : Pos} (hc : CallR X (.type T) (rO X.K o)) (hg : Gl X x) (hm : X.mg x = none) (hv : bootBuiltins x = some (.type T)) (ha : PA X (e :: es) (tA X.K C irs)) (hst : ∀ e' ∈ e :: es, ∀ y z, e' ≠ .Starred y z)
    (hn : x ≠ "__name__") (hdb : (x == ("__debug__" : Str)) = false) : PE X (.Call (.Name x p) (e :: es) [] pos) (tE X.K C (.op o irs)) :=
  PE.imp (pe_callTy hc hg hm hv ha hn hdb (hst_of (hst e (List.mem_cons_self ..)) _) (any_of _ fun e he => hst e (List.mem_cons_of_mem _ he))) fun _ _ _ => tB_of
/-! ### isinstance -/
def tyName : Ty → String
  | .int => "int"
  | .bool => "bool"
  | .str => "str"
  | .tuple => "tuple"
  | .list => "list"
theorem boot_ty (t : Ty) : bootBuiltins (Str.ofString (tyName t)) = some (.type (tyName t)) := by cases t <;> rfl
def dName : D → String
  | .non => "NoneType"
  | .bl _ => "bool"
  | .int _ => "int"
  | .str _ => "str"
  | .tup _ => "tuple"
  | _ => "list"
theorem tyx_of {K : PySem.W.Frag} {F H : Hp} {v : V} {d : D} (ex : Ex F H) (r : Rv K F H v d) (h : isFn d = false) : TyX K H v (.type (dName d)) := by
  cases d with
  | non => rw [r.non]; exact .base .non
  | fn f => cases h
  | scr f => cases h
  | bl x => rw [r.bl]; exact .base (.bl x)
  | int x => rw [r.int]; exact .base (.int x)
  | str x => rw [r.str]; exact .base (.str x)
  | tup x =>
    obtain ⟨p, vs, rfl, s, _, _⟩ := r.tup ex
    rcases s with (s | ⟨o, s⟩) | ⟨o, its, n, s1, s2, _⟩
    · exact .base (.tup s)
    · exact .fTuple s
    · exact .kTuple s1 s2
  | lst x =>
    obtain ⟨p, vs, rfl, s, _⟩ := r.lst ex
    exact .base (.lst s)
theorem kit_isTy (d : D) (t : Ty) (h : isFn d = false) : kitB (dName d) (tyName t) = some (isTy d t) := by
  have k1 : ∀ t : Ty, kitB "NoneType" (tyName t) = some false := by intro t; cases t <;> decide +kernel
  have k2 : ∀ t : Ty, kitB "bool" (tyName t) = some (match t with | .int => true | .bool => true | _ => false) := by intro t; cases t <;> decide +kernel
  have k3 : ∀ t : Ty, kitB "int" (tyName t) = some (match t with | .int => true | _ => false) := by intro t; cases t <;> decide +kernel
  have k4 : ∀ t : Ty, kitB "str" (tyName t) = some (match t with | .str => true | _ => false) := by intro t; cases t <;> decide +kernel
  have k5 : ∀ t : Ty, kitB "tuple" (tyName t) = some (match t with | .tuple => true | _ => false) := by intro t; cases t <;> decide +kernel
  have k6 : ∀ t : Ty, kitB "list" (tyName t) = some (match t with | .list => true | _ => false) := by intro t; cases t <;> decide +kernel
  cases d with
  | non => exact (k1 t).trans (by cases t <;> rfl)
  | bl x => exact (k2 t).trans (by cases t <;> rfl)
  | int x => exact (k3 t).trans (by cases t <;> rfl)
  | str x => exact (k4 t).trans (by cases t <;> rfl)
  | tup x => exact (k5 t).trans (by cases t <;> rfl)
  | lst x => exact (k6 t).trans (by cases t <;> rfl)
  | fn f => cases h
  | scr f => cases h
theorem kit_anyTy {K : PySem.W.Frag} (d : D) (h : isFn d = false) : ∀ ts : List Ty, PySem.W.kitAny K (.type (dName d)) (ts.map fun t => .type (tyName t)) = some (ts.any (isTy d))
  | [] => kitAny_nil
  | t :: ts => by
    rw [List.map_cons, List.any_cons]
    refine kitAny_cons (kit_ty (kit_isTy d t h)) (fun e => ?_) (fun e => ?_)
    · rw [e, Bool.false_or]; exact kit_anyTy d h ts
    · rw [e, Bool.true_or]
theorem isi_ev {ts : List Ty} {d : D} {t : T} (e : opF (.isi ts) [d] = some t) : isFn d = false ∧ t = .d (.bl (ts.any (isTy d))) := by
  have e' : (if isFn d = true then none else bD (ts.any (isTy d))) = some t := e
  split at e'
  · cases e'
  · rename_i h
    exact ⟨by simpa using h, bD_eq e'⟩
theorem b_isi1 (ty : Ty) : CallR X (.builtin "isinstance") (fun xs H Q => ∃ v, xs = [v, .ty (tyName ty)] ∧ rO X.K (.isi [ty]) [v] H Q) := by
  intro pins s σ H xs us Q I r ⟨v, h, F, ds, t, ex, rv, e, q⟩
  subst h
  obtain ⟨d, rfl, rd⟩ := one_of rv
  obtain ⟨hf, rfl⟩ := isi_ev e
  have hk : PySem.W.kitOne X.K (.type (dName d)) (.type (tyName ty)) = some (isTy d ty) := kit_ty (kit_isTy d ty hf)
  have hq : Q (.bl (isTy d ty)) H := by
    have := q F H (.bl ([ty].any (isTy d))) (Nw.refl ex) (.bl _)
    rwa [List.any_cons, List.any_nil, Bool.or_false] at this
  exact call_isi pins s σ H _ us Q I r ⟨v, .ty (tyName ty), .type (dName d), .type (tyName ty), isTy d ty, rfl, .ty _, tyx_of ex rd hf, hk, hq⟩
theorem b_isiT (ts : List Ty) : CallR X (.builtin "isinstance") (fun xs H Q => ∃ v p, xs = [v, .ref p] ∧ H p = some (.tup (ts.map fun t => V.ty (tyName t))) ∧ rO X.K (.isi ts) [v] H Q) := by
  intro pins s σ H xs us Q I r ⟨v, p, h, hp, F, ds, t, ex, rv, e, q⟩
  subst h
  obtain ⟨d, rfl, rd⟩ := one_of rv
  obtain ⟨hf, rfl⟩ := isi_ev e
  refine call_isiT pins s σ H _ us Q I r ⟨v, p, _, _, ts.map fun t => .type (tyName t), _, rfl, hp, ?_, tyx_of ex rd hf, kit_anyTy d hf ts, q F H _ (Nw.refl ex) (.bl _)⟩
  clear hp rv e q rd hf r I
  induction ts with
  | nil => exact .nil
  | cons t ts ih => exact .cons (.ty _) ih
/-- isinstance(a, T) -/
theorem e_isi1 {p p' : Pos} {ty : Ty} (ha : PE X a (tE X.K C ia)) (hst : ∀ y z, a ≠ .Starred y z) (hg : Gl X "isinstance") (hm : X.mg "isinstance" = none) (hg2 : Gl X (Str.ofString (tyName ty))) (hm2 : X.mg (Str.ofString (tyName ty)) = none) :
    PE X (.Call (.Name "isinstance" p) [a, .Name (Str.ofString (tyName ty)) p'] [] pos) (tE X.K C (.op (.isi [ty]) [ia])) := by
  have hn : ∀ t : Ty, Str.ofString (tyName t) ≠ ("__name__" : Str) := fun t => by cases t <;> decide
  have hd : ∀ t : Ty, (Str.ofString (tyName t) == ("__debug__" : Str)) = false := fun t => by cases t <;> decide
  have h2 : PE X (.Name (Str.ofString (tyName ty)) p') (tC (.ty (tyName ty))) := pe_bltn hg2 hm2 (boot_ty ty) rfl (hn ty) (hd ty)
  refine PE.imp (pe_callB (b_isi1 ty) hg hm (by rfl) (pa_cons ha (pa_cons h2 pa_nil) (hst_of hst _)) (by decide) (by decide) (hst_of hst _) rfl) fun σ H Q h => ?_
  obtain ⟨F, env, ag, env', s, e, q⟩ := t1_of h
  exact ⟨F, env, ag, env', s, e, fun F' H' v S r => ⟨v, rfl, q F' H' v S r⟩⟩
/-- isinstance(a, (T, U)) -/
theorem e_isi2 {p p1 p2 p3 : Pos} {k : Nat} {t1 t2 : Ty} (ha : PE X a (tE X.K C ia)) (hst : ∀ y z, a ≠ .Starred y z) (hg : Gl X "isinstance") (hm : X.mg "isinstance" = none) (hg1 : Gl X (Str.ofString (tyName t1))) (hm1 : X.mg (Str.ofString (tyName t1)) = none)
    (hg2 : Gl X (Str.ofString (tyName t2))) (hm2 : X.mg (Str.ofString (tyName t2)) = none) :
    PE X (.Call (.Name "isinstance" p) [a, .Tuple [.Name (Str.ofString (tyName t1)) p1, .Name (Str.ofString (tyName t2)) p2] k p3] [] pos) (tE X.K C (.op (.isi [t1, t2]) [ia])) := by
  have hn : ∀ t : Ty, Str.ofString (tyName t) ≠ ("__name__" : Str) := fun t => by cases t <;> decide
  have hd : ∀ t : Ty, (Str.ofString (tyName t) == ("__debug__" : Str)) = false := fun t => by cases t <;> decide
  have h1 : PE X (.Name (Str.ofString (tyName t1)) p1) (tC (.ty (tyName t1))) := pe_bltn hg1 hm1 (boot_ty t1) rfl (hn t1) (hd t1)
  have h2 : PE X (.Name (Str.ofString (tyName t2)) p2) (tC (.ty (tyName t2))) := pe_bltn hg2 hm2 (boot_ty t2) rfl (hn t2) (hd t2)
  refine PE.imp (pe_callB (b_isiT [t1, t2]) hg hm (by rfl) (pa_cons ha (pa_cons (pe_tup (pa_cons h1 (pa_cons h2 pa_nil))) pa_nil) (hst_of hst _)) (by decide) (by decide) (hst_of hst _) rfl) fun σ H Q h => ?_
  obtain ⟨F, env, ag, env', s, e, q⟩ := t1_of h
  refine ⟨F, env, ag, env', s, e, fun F' H' v S r => ⟨by rw [line_eq]; show 2 ≤ line; decide, fun z hz => ⟨v, z, rfl, upd_same, ?_⟩⟩⟩
  obtain ⟨F1, ds, t, x1, x2, x3, x4⟩ := q F' H' v S r
  obtain ⟨d, rfl, rd⟩ := one_of x2
  obtain ⟨hf, rfl⟩ := isi_ev x3
  have n : Nw F1 H' F1 (upd H' z (.tup [V.ty (tyName t1), V.ty (tyName t2)])) := Nw.new x1 hz
  refine ⟨F1, [d], _, n.fh, ?_, x3, fun F2 H2 w n2 rt => ?_⟩
  · refine ⟨?_, True.intro⟩
    rcases rd with rd | ⟨p, vs, xs, g1, g2, g3, g4⟩
    · exact .inl rd
    · exact .inr ⟨p, vs, xs, g1, g2, n.h _ _ g3, g4⟩
  · exact x4 F2 H2 w (n.trans n2) rt
end
end Ev

/-! Ev, part H: lists' methods. -/
namespace Ev
open PySem PySem.Spec PyProof.Rows L2
/-- a change of a list, by values -/
def rM (K : PySem.W.Frag) (m : Mt) : V → List V → Hp → VK → Prop := fun x vs H Q => ∃ F p ws xs ds z, x = .ref p ∧ H p = some (.lst ws) ∧ Ex F H ∧ Dvs K F ws xs ∧ Rvs K F H vs ds ∧ (mutKeeps m = true → Dvs K F vs ds) ∧ mutF m xs ds = some z ∧
  ∀ v ws', Dv K F v z.1 → Dvs K F ws' z.2 → Q v (upd H p (.lst ws'))
theorem Dvs.rvs {K : PySem.W.Frag} {F H : Hp} : ∀ {vs : List V} {ds : List D}, Dvs K F vs ds → Rvs K F H vs ds
  | _, _, .nil => True.intro
  | _, _, .cons a b => ⟨.inl a, Dvs.rvs b⟩
section
variable {C : Sem0} {X : Cx}
theorem m_append : MtR X "list.append" (rM X.K .append) := by
  intro pins s σ H x xs v us Q I rx rs ⟨F, p, ws, xs', ds, z, h1, h2, h3, h4, h5, h6, h7, q⟩
  subst h1
  match ds, h5, h6, h7 with
  | [d], h5, h6, h7 =>
    obtain ⟨y, rfl, ry⟩ := Rvs.one h5
    have h7' : (if xs'.length < line then some ((D.non, xs' ++ [d]) : D × List D) else none) = some z := h7
    split at h7'
    · rename_i hl
      cases h7'
      refine mt_append pins s σ H _ _ v us Q I rx rs ⟨p, ws, y, rfl, rfl, h2, by rw [line_eq, h4.len]; exact hl, q _ _ .non (h4.app (h6 rfl))⟩
    · cases h7'
theorem m_extend : MtR X "list.extend" (rM X.K .extend) := by
  intro pins s σ H x xs v us Q I rx rs ⟨F, p, ws, xs', ds, z, h1, h2, h3, h4, h5, h6, h7, q⟩
  subst h1
  match ds, h5, h6, h7 with
  | [.lst ys], h5, h6, h7 =>
    obtain ⟨y, rfl, ry⟩ := Rvs.one h5
    obtain ⟨p', zs, rfl, hz, hd⟩ := ry.lst h3
    have h7' : (if xs'.length + ys.length ≤ line then some ((D.non, xs' ++ ys) : D × List D) else none) = some z := h7
    split at h7'
    · rename_i hl
      cases h7'
      refine mt_extend pins s σ H _ _ v us Q I rx rs ⟨p, p', ws, zs, rfl, rfl, h2, hz, by rw [line_eq, h4.len, hd.len]; exact hl, q _ _ .non (h4.app hd)⟩
    · cases h7'
theorem m_insert : MtR X "list.insert" (rM X.K .insert) := by
  intro pins s σ H x xs v us Q I rx rs ⟨F, p, ws, xs', ds, z, h1, h2, h3, h4, h5, h6, h7, q⟩
  subst h1
  match ds, h5, h6, h7 with
  | [.int i, d], h5, h6, h7 =>
    obtain ⟨y0, y, rfl, ri, ry⟩ := Rvs.two h5
    have := ri.int
    subst this
    have h7' : (if xs'.length < line ∧ 0 ≤ i ∧ i < 2 ^ 63 then some ((D.non, xs'.take i.toNat ++ [d] ++ xs'.drop i.toNat) : D × List D) else none) = some z := h7
    split at h7'
    · rename_i hl
      cases h7'
      have hk := h6 rfl
      cases hk with
      | cons _ hk =>
        exact mt_insert pins s σ H _ _ v us Q I rx rs ⟨p, ws, i, y, rfl, rfl, h2, by rw [line_eq, h4.len]; exact hl.1, hl.2.1, hl.2.2, q _ _ .non (((h4.take _).app hk).app (h4.drop _))⟩
    · cases h7'
theorem m_pop : MtR X "list.pop" (rM X.K .pop) := by
  intro pins s σ H x xs v us Q I rx rs ⟨F, p, ws, xs', ds, z, h1, h2, h3, h4, h5, h6, h7, q⟩
  subst h1
  match ds, h5, h6, h7 with
  | [], h5, h6, h7 =>
    have := Rvs.nil h5
    subst this
    obtain ⟨y, h8, h9⟩ := bs (show (xs'[xs'.length - 1]?).bind (fun y => some ((y, xs'.dropLast) : D × List D)) = some z from h7)
    cases h9
    obtain ⟨w, g1, g2⟩ := h4.get h8
    refine mt_pop pins s σ H _ _ v us Q I rx rs ⟨p, ws, w, rfl, rfl, h2, by rw [h4.len]; exact g1, q _ _ g2 ?_⟩
    rw [List.dropLast_eq_take, List.dropLast_eq_take, h4.len]
    exact h4.take _
theorem m_reverse : MtR X "list.reverse" (rM X.K .reverse) := by
  intro pins s σ H x xs v us Q I rx rs ⟨F, p, ws, xs', ds, z, h1, h2, h3, h4, h5, h6, h7, q⟩
  subst h1
  match ds, h5, h6, h7 with
  | [], h5, h6, h7 =>
    have := Rvs.nil h5
    subst this
    cases (show some ((D.non, xs'.reverse) : D × List D) = some z from h7)
    exact mt_reverse pins s σ H _ _ v us Q I rx rs ⟨p, ws, rfl, rfl, h2, q _ _ .non h4.rev⟩
/-- what asks a list, by values -/
def rMe (K : PySem.W.Frag) (m : Me) : V → List V → Hp → VK → Prop := fun x vs H Q => ∃ F xs ds z, Ex F H ∧ Rv K F H x (.lst xs) ∧ Rvs K F H vs ds ∧ metF m xs ds = some z ∧ ∀ v, Dv K F v z → Q v H
theorem idxOf_ok {x : D} : ∀ {ys : List D} {k0 k : Nat}, idxOf x ys k0 = some k → ∃ j z, k = k0 + j ∧ ys[j]? = some z ∧ eqD z x = true ∧ ∀ (m : Nat) (w : D), m < j → ys[m]? = some w → eqD w x = false
  | [], _, _, h => by simp [idxOf] at h
  | y :: ys, k0, k, h => by
    simp only [idxOf] at h
    split at h
    · rename_i he
      cases h
      exact ⟨0, y, rfl, rfl, he, fun m w hm => absurd hm (Nat.not_lt_zero _)⟩
    · rename_i he
      obtain ⟨j, z, h1, h2, h3, h4⟩ := idxOf_ok h
      refine ⟨j + 1, z, by omega, by simpa using h2, h3, fun m w hm hw => ?_⟩
      cases m with
      | zero => simp at hw; subst hw; simpa using he
      | succ m => exact h4 m w (by omega) (by simpa using hw)
theorem toPys_get : ∀ {ys : List D} {j : Nat}, (toPys ys)[j]? = (ys[j]?).map toPy
  | [], j => by simp [toPys]
  | y :: ys, 0 => by simp [toPys]
  | y :: ys, j + 1 => by simp [toPys, toPys_get (ys := ys)]
theorem shs_get : ∀ {n : Nat} {ys : List D} {j : Nat} {z : D}, shs n ys = true → ys[j]? = some z → sh n z = true
  | n, y :: ys, 0, z, h, e => by
    simp at e; subst e
    rw [shs, Bool.and_eq_true] at h; exact h.1
  | n, y :: ys, j + 1, z, h, e => by
    rw [shs, Bool.and_eq_true] at h
    exact shs_get h.2 (by simpa using e)
theorem q_index (hu : X.A.units + 65 < cLine) : MtR X "list.index" (rMe X.K .index) := by
  intro pins s σ H x xs v us Q I rx rs ⟨F, xs', ds, z, h1, h2, h3, h4, q⟩
  match ds, h3, h4 with
  | [d], h3, h4 =>
    obtain ⟨y, rfl, ry⟩ := Rvs.one h3
    have h4' : (if (sh 60 d && shs 59 xs') = true then (idxOf d xs' 0).bind fun k => some (D.int (k : Nat)) else none) = some z := h4
    split at h4'
    · rename_i hs
      rw [Bool.and_eq_true] at hs
      obtain ⟨k, g1, g2⟩ := bs h4'
      cases g2
      obtain ⟨j, w, e1, e2, e3, e4⟩ := idxOf_ok g1
      have hk : k = j := by omega
      subst hk
      obtain ⟨p, vs, rfl, hp, hd⟩ := h2.lst h1
      have sl : sh 60 (.lst xs') = true := by rw [sh]; exact hs.2
      have d1 : Dp X.K H (.ref p) (.list (toPys xs')) := Dv.py _ _ 60 (Rv.dv h1 h2) sl
      refine mt_indexD hu pins s σ H _ _ v us Q I rx rs ⟨p, y, toPy d, toPys xs', k, toPy w, rfl, rfl, d1, Dv.py _ _ 60 (Rv.dv h1 ry) hs.1, shaped_of sl (by decide), shaped_of hs.1 (by decide), ?_, ?_, fun m z' hm hz => ?_, q _ (.int _)⟩
      · rw [toPys_get, e2]; rfl
      · rw [← eqD_py w d 59 60 (shs_get hs.2 e2) hs.1]; exact e3
      · rw [toPys_get] at hz
        obtain ⟨w', hw, rfl⟩ := Option.map_eq_some_iff.mp hz
        rw [← eqD_py w' d 59 60 (shs_get hs.2 hw) hs.1]; exact e4 m w' hm hw
    · cases h4'
theorem q_count : MtR X "list.count" (rMe X.K .count) := by
  intro pins s σ H x xs v us Q I rx rs ⟨F, xs', ds, z, h1, h2, h3, h4, q⟩
  match ds, h3, h4 with
  | [.int i], h3, h4 =>
    obtain ⟨y, rfl, ry⟩ := Rvs.one h3
    have := ry.int
    subst this
    obtain ⟨ns, g1, g2⟩ := bs (show (intsD xs').bind (fun ns => some (D.int (ns.count i : Nat))) = some z from h4)
    cases g2
    obtain ⟨p, vs, rfl, hp, hd⟩ := h2.lst h1
    obtain ⟨rfl, _⟩ := hd.ints g1
    exact mt_lcount pins s σ H _ _ v us Q I rx rs ⟨p, ns, i, rfl, rfl, .inl (.inl hp), q _ (.int _)⟩
/-! ### calls of them -/
variable {i : Nat} {x name : Str} {p apos cpos : Pos} {e : Expr} {es : List Expr} {irs : List E} {id : String}
theorem few_of {X : Cx} : ∀ {es : List Expr}, (∀ e ∈ es, ∀ y z, e ≠ .Starred y z) → ((backTo cpos (starEach es X.env)).all (fun x => !x.1)) = true
  | [], _ => rfl
  | e :: es, h => by
    have h1 := few_of (X := X) (es := es) fun e he => h e (List.mem_cons_of_mem _ he)
    rw [hst_of (h e (List.mem_cons_self ..))]
    exact h1
theorem mut_of {m : Mt} {σ : L2.St} {H : Hp} {Q : VK} (h : tE X.K C (.mut m i irs) σ H Q) : ∃ p, σ[i]? = some (some (.ref p)) ∧ (∃ ws, H p = some (.lst ws)) ∧ tA X.K C irs σ H fun vs H2 => rM X.K m (.ref p) vs H2 Q := by
  obtain ⟨F, env, ag, env', s, e, q⟩ := h
  simp only [evA] at e
  split at e
  · rename_i ho
    obtain ⟨w, e1, e⟩ := bs e
    obtain ⟨r, e2, e⟩ := bs e
    split at e
    · rename_i xs n q2
      split at e
      · rename_i hn
        obtain ⟨z, e3, e⟩ := bs e
        cases e
        have h0 : ∃ p ws, σ[i]? = some (some (.ref p)) ∧ H p = some (.lst ws) := by
          unfold isOwn at ho
          split at ho
          · rename_i ys k q1
            obtain ⟨p, ws, g1, g2, _⟩ := s.ow i ys k q1
            exact ⟨p, ws, g1, g2⟩
          · cases ho
        obtain ⟨p, ws, g1, g2⟩ := h0
        refine ⟨p, g1, ⟨ws, g2⟩, F, env, w.1, w.2, s, e1, fun F1 H1 vs S1 r1 => ?_⟩
        have fin : ∀ F2, Se X.K σ F H env F2 H1 r.2 → Rvs X.K F2 H1 vs r.1 → (mutKeeps m = true → Dvs X.K F2 vs r.1) → rM X.K m (.ref p) vs H1 Q := fun F2 S2 rv rk => by
          obtain ⟨p', ws', k1, k2, k3, k4⟩ := S2.sr.ow i xs n q2
          rw [g1] at k1; cases k1
          refine ⟨F2, p, ws', xs, r.1, z, rfl, k2, S2.sr.fh, k4, rv, rk, e3, fun v ws2 hv hw => ?_⟩
          exact q F2 _ v (S2.setOwn q2 g1 k2 hw) hv
        split at e2
        · obtain ⟨F2, S2, d2, x2⟩ := frzs_ok S1 r1 e2
          exact fin F2 S2 (Dvs.rvs d2) fun _ => d2
        · rename_i hk
          obtain ⟨ds, e4, e2⟩ := bs e2
          cases e2
          exact fin F1 S1 (r1.rd S1.sr e4) fun z => absurd z hk
      · cases e
    · cases e
  · cases e
theorem met_of {m : Me} {σ : L2.St} {H : Hp} {Q : VK} (h : tE X.K C (.met m i irs) σ H Q) : ∃ v, σ[i]? = some (some v) ∧ tyV X.K "list" v H ∧ tA X.K C irs σ H fun vs H2 => rMe X.K m v vs H2 Q := by
  obtain ⟨F, env, ag, env', s, e, q⟩ := h
  simp only [evA] at e
  split at e
  · rename_i ho
    obtain ⟨w, e1, e⟩ := bs e
    obtain ⟨x, e2, e⟩ := bs e
    obtain ⟨ds, e3, e⟩ := bs e
    split at e
    · rename_i xs _
      obtain ⟨z, e4, e⟩ := bs e
      cases e
      have h0 : ∃ p ws, σ[i]? = some (some (.ref p)) ∧ H p = some (.lst ws) := by
        unfold isLs at ho
        split at ho
        · rename_i ys k q1
          obtain ⟨p, ws, g1, g2, _⟩ := s.ow i ys k q1
          exact ⟨p, ws, g1, g2⟩
        · rename_i ys q1
          obtain ⟨v, g1, g2⟩ := s.dd i _ q1
          cases g2 with
          | lst a b => exact ⟨_, _, g1, s.fh _ _ a⟩
        · cases ho
      obtain ⟨p, ws, g1, g2⟩ := h0
      refine ⟨_, g1, .inl ⟨rfl, _, .inl (.inl g2)⟩, F, env, w.1, w.2, s, e1, fun F1 H1 vs S1 r1 => ?_⟩
      have ra : RA X.K σ F1 H1 w.2 H (.ref p) (.r i) := g1
      exact ⟨F1, xs, ds, z, S1.sr.fh, ra.rd S1.sr e2, r1.rd S1.sr e3, e4, fun v hv => q F1 H1 v S1 hv⟩
    · cases e
  · cases e
theorem e_mut {m : Mt} (sl : Slot "list" name id) (hty : typeOf (.builtin id) = pure (.type "method_descriptor")) (hm : MtR X id (rM X.K m)) (hN : X.N[i]? = some x) (hv : Vis X.env.scope x) (hd : (x == ("__debug__" : Str)) = false) (hcd : (x == ("__classdict__" : Str)) = false)
    (ha : PA X (e :: es) (tA X.K C irs)) (hst : ∀ e' ∈ e :: es, ∀ y z, e' ≠ .Starred y z) (hl : es.length < 20) (hline : (apos.endLine == cpos.line) = true) : PE X (.Call (.Attribute (.Name x p) name apos) (e :: es) [] cpos) (tE X.K C (.mut m i irs)) := by
  refine PE.imp (pe_bm PySem.F.plainAttrs_list sl hty hm (pe_var hN hv hd hcd) ha rfl ?_ hline (hst_of (hst e (List.mem_cons_self ..)) _) (any_of _ fun e he => hst e (List.mem_cons_of_mem _ he))) fun σ H Q h => ?_
  · rw [few_of hst]
    show (true && decide (es.length + 1 + 0 + 0 < 30)) = true
    rw [Bool.true_and, decide_eq_true_eq]; omega
  · obtain ⟨p, g1, ⟨ws, g2⟩, t⟩ := mut_of h
    exact ⟨_, g1, .inl ⟨rfl, _, .inl (.inl g2)⟩, t⟩
theorem e_mut0 {m : Mt} (sl : Slot "list" name id) (hty : typeOf (.builtin id) = pure (.type "method_descriptor")) (hm : MtR X id (rM X.K m)) (hN : X.N[i]? = some x) (hv : Vis X.env.scope x) (hd : (x == ("__debug__" : Str)) = false) (hcd : (x == ("__classdict__" : Str)) = false)
    (hline : (apos.endLine == cpos.line) = true) : PE X (.Call (.Attribute (.Name x p) name apos) [] [] cpos) (tE X.K C (.mut m i [])) := by
  refine PE.imp (pe_bm0 PySem.F.plainAttrs_list sl hty hm (pe_var hN hv hd hcd) rfl hline) fun σ H Q h => ?_
  obtain ⟨p, g1, ⟨ws, g2⟩, F, env, ags, env', s, e, q⟩ := mut_of h
  refine ⟨_, g1, .inl ⟨rfl, _, .inl (.inl g2)⟩, ?_⟩
  simp only [evAs] at e
  cases e
  exact q F H [] (Se.refl s) .nil
theorem e_met {m : Me} (sl : Slot "list" name id) (hty : typeOf (.builtin id) = pure (.type "method_descriptor")) (hm : MtR X id (rMe X.K m)) (hN : X.N[i]? = some x) (hv : Vis X.env.scope x) (hd : (x == ("__debug__" : Str)) = false) (hcd : (x == ("__classdict__" : Str)) = false)
    (ha : PA X (e :: es) (tA X.K C irs)) (hst : ∀ e' ∈ e :: es, ∀ y z, e' ≠ .Starred y z) (hl : es.length < 20) (hline : (apos.endLine == cpos.line) = true) : PE X (.Call (.Attribute (.Name x p) name apos) (e :: es) [] cpos) (tE X.K C (.met m i irs)) := by
  refine PE.imp (pe_bm PySem.F.plainAttrs_list sl hty hm (pe_var hN hv hd hcd) ha rfl ?_ hline (hst_of (hst e (List.mem_cons_self ..)) _) (any_of _ fun e he => hst e (List.mem_cons_of_mem _ he))) fun σ H Q h => ?_
  · rw [few_of hst]
    show (true && decide (es.length + 1 + 0 + 0 < 30)) = true
    rw [Bool.true_and, decide_eq_true_eq]; omega
  · obtain ⟨v, g1, g2, t⟩ := met_of h
    exact ⟨_, g1, g2, t⟩
end
end Ev

/-! Ev, part I0: enumerate and zip over lists and tuples. -/
namespace Ev
open PySem PySem.Spec PyProof.Rows L2
/-- a list, a tuple -/
inductive Kd where
  | l | t
def SqK (K : PySem.W.Frag) : Kd → Hp → Addr → List V → Prop
  | .l, H, a, xs => SqL K H a xs
  | .t, H, a, xs => SqT K H a xs
def IsIt : Kd → Heap → Addr → Addr → Nat → Prop
  | .l, h, it, a, i => h.IsListIter it a i
  | .t, h, it, a, i => h.IsTupleIter it a i
def IsSq : Kd → Heap → Addr → Array Value → Prop
  | .l, h, a, its => h.IsList a its
  | .t, h, a, its => h.IsTuple a its
def itO : Kd → Addr → Obj
  | .l, a => { cls := .type "list_iterator", data := .fields #[.ref a, .int 0 0] }
  | .t, a => { cls := .type "tuple_iterator", data := .fields #[.ref a, .int 0 0] }
theorem IsIt.ob {k : Kd} {h : Heap} {it a : Addr} {i : Nat} (x : IsIt k h it a i) : ∃ o, h.get? it = some o ∧ ∀ v, o.data ≠ .cell v := by
  cases k <;> (obtain ⟨o, h1, _, h2⟩ := x; exact ⟨o, h1, fun v q => by rw [h2] at q; cases q⟩)
theorem IsIt.at' {k : Kd} {h h' : Heap} {it a : Addr} {i : Nat} (x : IsIt k h it a i) (e : ∀ o, h.get? it = some o → h'.get? it = some o) : IsIt k h' it a i := by
  cases k
  · exact Heap.IsListIter.at x e
  · exact Heap.IsTupleIter.at x e
theorem IsSq.lt {k : Kd} {h : Heap} {a : Addr} {its : Array Value} (x : IsSq k h a its) : a < h.objs.size := by
  cases k <;> (obtain ⟨o, h1, _⟩ := x; exact Heap.lt_size h1)
theorem draws {prog : Program} {w : World} {A : Around} (k : Kd) (hh : A.handled = none) (it a : Addr) (hne : a ≠ it) (items : Array Value) :
    Draws prog w A it [it, a] items.size (fun i v => items[i]? = some v) (fun i h => IsIt k h it a i ∧ IsSq k h a items) := by
  cases k
  · exact Draws.list hh it a hne items
  · exact Draws.tuple hh it a hne items
theorem begins (k : Kd) (a : Addr) (items : Array Value) : Begins (.ref a) (itO k a) fun h => IsSq k h a items := by
  cases k
  · exact begins_list a items
  · exact begins_tuple a items
theorem itO_is (k : Kd) {h : Heap} {it a : Addr} (e : h.get? it = some (itO k a)) : IsIt k h it a 0 := by
  cases k <;> exact ⟨_, e, rfl, rfl⟩
theorem Inv_sqK {X : Cx} {pins : List (Addr × Obj)} {σ : L2.St} {H : Hp} {s : Shared} {k : Kd} {a : Addr} {xs : List V} (I : Inv X pins σ H s) (h : SqK X.K k H a xs) : ∃ its : List Value, Vals xs its ∧ IsSq k s.heap a its.toArray := by
  cases k
  · obtain ⟨its, rv, p, _⟩ := I.list h
    exact ⟨its, rv, p.isList⟩
  · obtain ⟨its, rv, p, _⟩ := I.tuple h
    exact ⟨its, rv, p⟩
theorem Inv_sqI {X : Cx} {pins : List (Addr × Obj)} {σ : L2.St} {H : Hp} {s : Shared} {k : Kd} {a : Addr} {xs ys : List V} (I : Inv X pins σ H s) (h : SqK X.K k H a xs) (h' : SqK X.K k H a ys) : xs = ys := by
  cases k
  · exact I.list_inj h h'
  · exact I.tuple_inj h h'
/-! ### enumerate(x), enumerate(x, c) -/
def IteK (K : PySem.W.Frag) (k : Kd) (c : Int) (a : Addr) : It :=
  ⟨fun i H => ∃ (xs : List V) (x : V), SqK K k H a xs ∧ xs[i]? = some x, fun i H v H' => ∃ T x, v = .ref T ∧ H T = none ∧ H' = upd H T (.tup [.int (c + (i : Nat)), x]) ∧ ∀ xs, SqK K k H a xs → xs[i]? = some x, fun i H => ∃ xs : List V, SqK K k H a xs ∧ i = xs.length⟩
theorem turn_enumK {P : Program} {w : World} {K : PySem.W.Frag} {elts : List Expr} {kk : Nat} {tpos : Pos} {k : Kd} {c : Int} {a e it : Addr} (hei : e ≠ it) (hea : e ≠ a) (hai : a ≠ it) :
    Turn P w K (.Tuple elts kk tpos) (IteK K k c a) [e, it] e (fun i h => (∃ old, IsEnum h e it (c + (i : Nat)) old) ∧ IsIt k h it a i) where
  mem := by simp
  obj := fun i h st b hb => by
    obtain ⟨⟨old, he⟩, hi⟩ := st
    have e' : b = e ∨ b = it := by simpa using hb
    rcases e' with z | z
    · rw [z]; exact ⟨_, he, fun v q => nomatch q⟩
    · rw [z]; exact hi.ob
  keep := fun i h h' st k => let ⟨⟨old, he⟩, hi⟩ := st; ⟨⟨old, k e (by simp) _ he⟩, hi.at' fun o q => k it (by simp) o q⟩
  item := by
    intro X hP hw hK hc i pins s σ H E I hf st hg
    subst hP hw hK
    obtain ⟨⟨old, he⟩, hit⟩ := st
    obtain ⟨xs, x, hq, hx⟩ := hg
    obtain ⟨its, rv, p⟩ := Inv_sqK I hq
    obtain ⟨u, hu, ru⟩ := rv.get hx
    have hel : e < s.heap.objs.size := Heap.lt_size he
    have hil : it < s.heap.objs.size := by obtain ⟨o, q, _⟩ := hit.ob; exact Heap.lt_size q
    have hlt : i < its.toArray.size := by
      have := (List.getElem?_eq_some_iff.mp hu).1
      simpa using this
    have D := draws (prog := X.prog) (w := X.w) (A := X.A.in1) k (I.ok.hd hc) it a hai its.toArray
    refine wpAny_pyNext_enum_itemC D he ⟨hit, p⟩ hlt hei (by simp [hei, hea]) fun x' h' tk hx' ho st' hT hsz hk => ?_
    have hxu : x' = u := by
      have h1 : its.toArray[i]? = some u := by simpa using hu
      rw [h1] at hx'; cases hx'; rfl
    subst hxu
    refine ⟨_, rfl, wpAny_letOwnedTupleGo_enum (s := { s with heap := h', toks := tk + 1 }) ho fun h'' he' sb => ?_⟩
    have hT2 : h''.get? s.heap.objs.size = some { cls := .type "tuple", data := .seq #[.int (c + (i : Nat)) tk, x'] } := (sb.2 _ (Nat.ne_of_gt hel)).trans hT
    have new : ObjOk X.prog X.w (upd H s.heap.objs.size (.tup [.int (c + (i : Nat)), x])) h'' s.heap.objs.size (.tup [.int (c + (i : Nat)), x]) :=
      ⟨by show 2 ≤ sizeLine; decide, [.int (c + (i : Nat)) tk, x'], .cons ⟨_, rfl⟩ (.cons ru .nil), ⟨_, hT2, rfl, _, rfl⟩⟩
    have I1 : Inv X pins σ (upd H s.heap.objs.size (.tup [.int (c + (i : Nat)), x])) { s with heap := h'', toks := tk + 1 } :=
      I.turnedNew (t' := tk + 1) (ch := [e, it]) (fun b ob hb q => (sb.2 b (fun z => hb (by simp [z]))).trans (hk b ob (fun z => hb (by simp [z])) (fun z => hb (by simp [z])) q)) hf (Nat.le_refl _) new
    refine ⟨.ref s.heap.objs.size, _, I1, rfl, ⟨_, x, rfl, I.hok.fresh (Nat.le_refl _), rfl, fun ys hy => by rw [Inv_sqI I hy hq]; exact hx⟩, ⟨⟨x', ?_⟩, st'.1.at' fun o q => (sb.2 it (Ne.symm hei)).trans q⟩, fun b hb => ?_⟩
    · have e1 : c + ((i + 1 : Nat) : Int) = c + (i : Int) + 1 := by omega
      rw [e1]; exact he'
    · have hb' : b < s.heap.objs.size := by
        have e' : b = e ∨ b = it := by simpa using hb
        rcases e' with z | z
        · rw [z]; exact hel
        · rw [z]; exact hil
      rw [upd_ne (Nat.ne_of_lt hb')]
      exact (hf b hb).1
  done := by
    intro X hP hw hK hc i pins s σ H E I hf st hg
    subst hP hw hK
    obtain ⟨⟨old, he⟩, hit⟩ := st
    obtain ⟨xs, hq, hx⟩ := hg
    obtain ⟨its, rv, p⟩ := Inv_sqK I hq
    have hl := rv.length
    have hsz : its.toArray.size = i := by simp; omega
    have D := draws (prog := X.prog) (w := X.w) (A := X.A.in1) k (I.ok.hd hc) it a hai its.toArray
    rw [hsz] at D
    obtain ⟨f0, f1, f2, f3, f4, f5⟩ := hf it (by simp)
    exact wpAny_pyNext_enum_endD D he ⟨hit, p⟩ fun h' eb => ⟨rfl, I.turned (t' := s.toks) (fun b o hb q => eb b o hb q) f0 f1 f3 f4 f5⟩
  self := fun A i s Q E st h => let ⟨⟨_, he⟩, _⟩ := st; wpAny_pyIter_enum he h
theorem meets_enumerate_newB1 {v : Value} {o : Obj} {H : Heap → Prop} (B : Begins v o H) :
    Meets (Builtin.«enumerate.__new__» ⟨[.type "enumerate", v], []⟩) (fun _ R s => H s.heap ∧
      R (.ok (.ret (.ref (s.heap.push o).objs.size))) { s with heap := (s.heap.push o).push { cls := .type "enumerate", data := .fields #[.none, .bool false, .ref s.heap.objs.size, rawInt 0, .none, .none] } }) :=
  .of_wp fun prog w A R s h => by
    obtain ⟨hp, g, d, tk, os⟩ := s; obtain ⟨h1, h⟩ := h
    have hsub := sub_enumerate
    have q1 : ∀ {A' : Around} {E : Value → Shared → Prop} {Q : Value → Shared → Prop}, Q (.ref hp.objs.size) ⟨hp.push o, g, d, tk, os⟩ → wpAny (model prog w) A' (pyIter v) Q E ⟨hp, g, d, tk, os⟩ :=
      fun q => B.iter prog w _ _ ⟨hp, g, d, tk, os⟩ _ h1 q
    wp_walk using q1
    refine wpAny_stack_any fun st => wpAny_pure ?_
    split
    · rename_i c _ _ _ _ _
      cases (c == Value.type "enumerate")
      · wp_walk using q1
        exact ⟨_, rfl, h⟩
      · wp_walk using q1
        exact ⟨_, rfl, h⟩
    · wp_walk using q1
      exact ⟨_, rfl, h⟩
section
variable {prog : Program} {w : World} {A : Around} {E : Value → Shared → Prop} {s : Shared}
theorem enum_begins1 {v : Value} {o : Obj} {H : Heap → Prop} {Q : Value → Shared → Prop} (B : Begins v o H) (h1 : H s.heap)
    (h : ∀ h', IsEnum h' (s.heap.objs.size + 1) s.heap.objs.size 0 .none → h'.get? s.heap.objs.size = some o → h'.objs.size = s.heap.objs.size + 2 →
      (∀ b o, s.heap.get? b = some o → h'.get? b = some o) → Q (.ref (s.heap.objs.size + 1)) { s with heap := h' }) :
    wpAny (model prog w) A (call (.type "enumerate") [v]) Q E s := by
  refine callType_new F.called_enumerate (by decide) (F.typeCall_enumerate_1 _) (F.newCall_enumerate_1 _) (fun obj => F.args_object_init_2 obj _) F.entry_enumerate_new
    (meets_enumerate_newB1 B) ⟨h1, ?_⟩
  have hz : (s.heap.push o).objs.size = s.heap.objs.size + 1 := Heap.size_push ..
  show _ ∧ _
  rw [hz]
  have he : IsEnum ((s.heap.push o).push { cls := .type "enumerate", data := .fields #[.none, .bool false, .ref s.heap.objs.size, rawInt 0, .none, .none] }) (s.heap.objs.size + 1) s.heap.objs.size 0 .none := by
    have := Heap.get?_push_size (s.heap.push o) (o := { cls := .type "enumerate", data := .fields #[.none, .bool false, .ref s.heap.objs.size, rawInt 0, .none, .none] }) rfl
    rw [hz] at this; exact this
  refine ⟨⟨_, he, rfl⟩, h _ he (Heap.get?_push_of_some _ (Heap.get?_push_size _ B.free)) (by rw [Heap.size_push, hz]) fun b o x => Heap.get?_push_of_some _ (Heap.get?_push_of_some _ x)⟩
end
section
variable {X : Cx} {elts : List Expr} {kk : Nat} {p pos tpos : Pos}
theorem pi_enum_fin {pins : List (Addr × Obj)} {σ : L2.St} {H : Hp} {s : Shared} {k : Kd} {a : Addr} {xs : List V} {its : List Value} {c : Int} {R : It → Hp → Prop} {h' : Heap} (I : Inv X pins σ H s) (pa : IsSq k s.heap a its.toArray)
    (he : IsEnum h' (s.heap.objs.size + 1) s.heap.objs.size c .none) (hit : h'.get? s.heap.objs.size = some (itO k a)) (hk : ∀ b o, s.heap.get? b = some o → h'.get? b = some o) (q : R (IteK X.K k c a) H) :
    wpAny (model X.prog X.w) X.A (pyIter (.ref (s.heap.objs.size + 1))) (PIE X pins σ (.Tuple elts kk tpos) R) X.xe { s with heap := h' } := by
  refine wpAny_pyIter_enum he ?_
  have I2 : Inv X pins σ H { s with heap := h' } := I.kept (t' := s.toks) hk
  have la := pa.lt
  refine ⟨s.heap.objs.size + 1, [s.heap.objs.size + 1, s.heap.objs.size], _, _, H, rfl, I2, turn_enumK (k := k) (c := c) (Nat.succ_ne_self _) (Nat.ne_of_gt (Nat.lt_succ_of_lt la)) (Nat.ne_of_lt la), ⟨⟨.none, ?_⟩, itO_is k hit⟩, fun b hb => ?_, q⟩
  · have : c + ((0 : Nat) : Int) = c := by omega
    rw [this]; exact he
  have e' : b = s.heap.objs.size + 1 ∨ b = s.heap.objs.size := by simpa using hb
  have hle : s.heap.objs.size ≤ b := by
    rcases e' with z | z
    · rw [z]; exact Nat.le_add_right _ _
    · rw [z]; exact Nat.le_refl _
  exact I.fpOk hle (I.hok.fresh hle)
def iEnumK (K : PySem.W.Frag) (ta : TA) : TI := fun σ H R => ta σ H fun vs H1 => ∃ k a xs, vs = [.ref a] ∧ SqK K k H1 a xs ∧ R (IteK K k 0 a) H1
theorem pi_enumK {e : Expr} {ta : TA} (hg : Gl X "enumerate") (hm : X.mg "enumerate" = none) (ha : PA X [e] ta) (hs : starEach [e] X.env = [(false, eval e X.env)]) :
    PI X (.Tuple elts kk tpos) (.Call (.Name "enumerate" p) [e] [] pos) (iEnumK X.K ta) := by
  refine ⟨fun pins s σ H R I h => ?_⟩
  refine Call_ (ld_blt I hg hm boot_enumerate (PyProof.Rows.callWith_type1 (thn (ha.run pos pins s σ H _ I h) fun us s1 ⟨vs, H1, I1, r1, q1⟩ => ?_) hs rfl))
  obtain ⟨k, a, xs, ex, hq, q⟩ := q1
  subst ex
  cases r1 with
  | cons r rr =>
    cases rr
    cases r
    obtain ⟨its, rv, p'⟩ := Inv_sqK I1 hq
    exact enum_begins1 (begins k a its.toArray) p' fun h' he hit hsz hk => pi_enum_fin I1 p' (xs := xs) he hit hk q
def iEnumK2 (K : PySem.W.Frag) (ta : TA) : TI := fun σ H R => ta σ H fun vs H1 => ∃ k a xs c, vs = [.ref a, .int c] ∧ -(2 ^ 62) ≤ c ∧ c < 2 ^ 62 ∧ SqK K k H1 a xs ∧ R (IteK K k c a) H1
theorem pi_enumK2 {e e2 : Expr} {ta : TA} (hg : Gl X "enumerate") (hm : X.mg "enumerate" = none) (ha : PA X [e, e2] ta)
    (hs : starEach [e, e2] X.env = (false, eval e X.env) :: starEach [e2] X.env) (hpl : (backTo pos (starEach [e2] X.env)).any (·.1) = false) :
    PI X (.Tuple elts kk tpos) (.Call (.Name "enumerate" p) [e, e2] [] pos) (iEnumK2 X.K ta) := by
  refine ⟨fun pins s σ H R I h => ?_⟩
  refine Call_ (ld_blt I hg hm boot_enumerate (PyProof.Rows.callWith_type1 (thn (ha.run pos pins s σ H _ I h) fun us s1 ⟨vs, H1, I1, r1, q1⟩ => ?_) hs hpl))
  obtain ⟨k, a, xs, c, ex, c0, c1, hq, q⟩ := q1
  subst ex
  cases r1 with
  | cons r rr =>
    cases rr with
    | cons r' rr =>
      cases rr
      cases r
      obtain ⟨t, rfl⟩ := r'
      obtain ⟨its, rv, p'⟩ := Inv_sqK I1 hq
      exact enum_begins (begins k a its.toArray) p' (by omega) (by omega) fun h' he hit hsz hk => pi_enum_fin I1 p' (xs := xs) he hit hk q
/-! ### zip(x, y) -/
def ItzK (K : PySem.W.Frag) (k1 k2 : Kd) (a b : Addr) : It :=
  ⟨fun i H => ∃ (xs ys : List V) (x y : V), SqK K k1 H a xs ∧ SqK K k2 H b ys ∧ xs[i]? = some x ∧ ys[i]? = some y,
    fun i H v H' => ∃ T x y, v = .ref T ∧ H T = none ∧ H' = upd H T (.tup [x, y]) ∧ (∀ xs, SqK K k1 H a xs → xs[i]? = some x) ∧ ∀ ys, SqK K k2 H b ys → ys[i]? = some y,
    fun i H => ∃ xs ys : List V, SqK K k1 H a xs ∧ SqK K k2 H b ys ∧ i ≤ xs.length ∧ i ≤ ys.length ∧ (i = xs.length ∨ i = ys.length)⟩
theorem turn_zipK {P : Program} {w : World} {K : PySem.W.Frag} {k1 k2 : Kd} {a b z TI TO i1 i2 : Addr} (D : ZipSep2 z TI TO i1 i2 [i1, a] [i2, b]) (h1 : a ≠ i1) (h2 : b ≠ i2) :
    Turn P w K (.Tuple elts kk tpos) (ItzK K k1 k2 a b) [z, TI, TO, i1, i2] z (fun i h => IsZip h z TI TO .none ∧ IsTupOf2 h TI (.ref i1) (.ref i2) ∧ (∃ x y, IsTupOf2 h TO x y) ∧ IsIt k1 h i1 a i ∧ IsIt k2 h i2 b i) where
  mem := by simp
  obj := fun i h st c hc => by
    obtain ⟨hz, hTI, ⟨x, y, hTO⟩, g1, g2⟩ := st
    have e' : c = z ∨ c = TI ∨ c = TO ∨ c = i1 ∨ c = i2 := by simpa using hc
    rcases e' with q | q | q | q | q
    · rw [q]; exact ⟨_, hz, fun v q => nomatch q⟩
    · rw [q]; exact ⟨_, hTI, fun v q => nomatch q⟩
    · rw [q]; exact ⟨_, hTO, fun v q => nomatch q⟩
    · rw [q]; exact g1.ob
    · rw [q]; exact g2.ob
  keep := fun i h h' st k => by
    obtain ⟨hz, hTI, ⟨x, y, hTO⟩, g1, g2⟩ := st
    exact ⟨k z (by simp) _ hz, k TI (by simp) _ hTI, ⟨x, y, k TO (by simp) _ hTO⟩, g1.at' fun o q => k i1 (by simp) o q, g2.at' fun o q => k i2 (by simp) o q⟩
  item := by
    intro X hP hw hK hc i pins s σ H E I hf st hg
    subst hP hw hK
    obtain ⟨hz, hTI, ⟨x0, y0, hTO⟩, g1, g2⟩ := st
    obtain ⟨xs, ys, x, y, hqx, hqy, hx, hy⟩ := hg
    obtain ⟨its, rv, p⟩ := Inv_sqK I hqx
    obtain ⟨its2, rv2, p2⟩ := Inv_sqK I hqy
    obtain ⟨u, hu, ru⟩ := rv.get hx
    obtain ⟨u2, hu2, ru2⟩ := rv2.get hy
    have hzl : z < s.heap.objs.size := Heap.lt_size hz
    have hl1 : i < its.toArray.size := by
      have := (List.getElem?_eq_some_iff.mp hu).1
      simpa using this
    have hl2 : i < its2.toArray.size := by
      have := (List.getElem?_eq_some_iff.mp hu2).1
      simpa using this
    have D1 := draws (prog := X.prog) (w := X.w) (A := X.A.in1) k1 (I.ok.hd hc) i1 a h1 its.toArray
    have D2 := draws (prog := X.prog) (w := X.w) (A := X.A.in1) k2 (I.ok.hd hc) i2 b h2 its2.toArray
    refine wpAny_pyNext_zipD2_item D D1 D2 hz hTI hTO ⟨g1, p⟩ ⟨g2, p2⟩ hl1 hl2 fun x1 x2 h' tk e1 e2 z' TO' st1' st2' hT hsz hk => ?_
    have hxu : x1 = u := by
      have q1 : its.toArray[i]? = some u := by simpa using hu
      rw [q1] at e1; cases e1; rfl
    have hyu : x2 = u2 := by
      have q1 : its2.toArray[i]? = some u2 := by simpa using hu2
      rw [q1] at e2; cases e2; rfl
    subst hxu hyu
    refine ⟨_, rfl, wpAny_letOwnedTupleGo_zip (s := { s with heap := h', toks := tk }) z' fun h'' z'' sb => ?_⟩
    have hT2 : h''.get? s.heap.objs.size = some { cls := .type "tuple", data := .seq #[x1, x2] } := (sb.2 _ (Nat.ne_of_gt hzl)).trans hT
    have new : ObjOk X.prog X.w (upd H s.heap.objs.size (.tup [x, y])) h'' s.heap.objs.size (.tup [x, y]) :=
      ⟨by show 2 ≤ sizeLine; decide, [x1, x2], .cons ru (.cons ru2 .nil), ⟨_, hT2, rfl, _, rfl⟩⟩
    have I1 : Inv X pins σ (upd H s.heap.objs.size (.tup [x, y])) { s with heap := h'', toks := tk } :=
      I.turnedNew (t' := tk) (ch := [z, TI, TO, i1, i2]) (fun c o hb q => (sb.2 c (fun q' => hb (by simp [q']))).trans (hk c o (fun q' => hb (by simp [q'])) (fun q' => hb (by simp [q'])) (fun q' => hb (by simp [q'])) (fun q' => hb (by simp [q'])) q)) hf (Nat.le_refl _) new
    refine ⟨.ref s.heap.objs.size, _, I1, rfl, ⟨_, x, y, rfl, I.hok.fresh (Nat.le_refl _), rfl, fun l hl => by rw [Inv_sqI I hl hqx]; exact hx, fun l hl => by rw [Inv_sqI I hl hqy]; exact hy⟩, ⟨z'', ?_, ⟨x1, x2, ?_⟩, ?_, ?_⟩, fun c hcm => ?_⟩
    · exact (sb.2 _ D.TIz).trans (hk _ _ D.TIz D.TITO D.TIi1 D.TIi2 hTI)
    · exact (sb.2 _ D.TOz).trans TO'
    · exact st1'.1.at' fun o q => (sb.2 _ (Ne.symm D.zi1)).trans q
    · exact st2'.1.at' fun o q => (sb.2 _ (Ne.symm D.zi2)).trans q
    · have hlt : c < s.heap.objs.size := by
        have e' : c = z ∨ c = TI ∨ c = TO ∨ c = i1 ∨ c = i2 := by simpa using hcm
        rcases e' with q | q | q | q | q
        · rw [q]; exact hzl
        · rw [q]; exact Heap.lt_size hTI
        · rw [q]; exact Heap.lt_size hTO
        · rw [q]; obtain ⟨_, e1, _⟩ := g1.ob; exact Heap.lt_size e1
        · rw [q]; obtain ⟨_, e2, _⟩ := g2.ob; exact Heap.lt_size e2
      rw [upd_ne (Nat.ne_of_lt hlt)]
      exact (hf c hcm).1
  done := by
    intro X hP hw hK hc i pins s σ H E I hf st hg
    subst hP hw hK
    obtain ⟨hz, hTI, ⟨x0, y0, hTO⟩, g1, g2⟩ := st
    obtain ⟨xs, ys, hqx, hqy, l1, l2, hend⟩ := hg
    obtain ⟨its, rv, p⟩ := Inv_sqK I hqx
    obtain ⟨its2, rv2, p2⟩ := Inv_sqK I hqy
    have m1 := rv.length
    have m2 := rv2.length
    have D1 := draws (prog := X.prog) (w := X.w) (A := X.A.in1) k1 (I.ok.hd hc) i1 a h1 its.toArray
    have D2 := draws (prog := X.prog) (w := X.w) (A := X.A.in1) k2 (I.ok.hd hc) i2 b h2 its2.toArray
    exact wpAny_pyNext_zipD2_end D D1 D2 hz hTI hTO ⟨g1, p⟩ ⟨g2, p2⟩ (by simp; omega) (by simp; omega) (by simp; omega) fun h' tk hk => ⟨rfl, I.turnedL (t' := tk) (ch := [z, TI, TO, i1, i2]) (fun c o hb q =>
      hk c o (fun q' => hb (by simp [q'])) (fun q' => hb (by simp [q'])) (fun q' => hb (by simp [q'])) (fun q' => hb (by simp [q'])) q) hf⟩
  self := fun A i s Q E st h => wpAny_pyIter_zip st.1 h
def iZipK (K : PySem.W.Frag) (ta : TA) : TI := fun σ H R => ta σ H fun vs H1 => ∃ k1 k2 a b xs ys, vs = [.ref a, .ref b] ∧ SqK K k1 H1 a xs ∧ SqK K k2 H1 b ys ∧ R (ItzK K k1 k2 a b) H1
theorem pi_zipK {e e2 : Expr} {ta : TA} (hg : Gl X "zip") (hm : X.mg "zip" = none) (ha : PA X [e, e2] ta)
    (hs : starEach [e, e2] X.env = (false, eval e X.env) :: starEach [e2] X.env) (hpl : (backTo pos (starEach [e2] X.env)).any (·.1) = false) :
    PI X (.Tuple elts kk tpos) (.Call (.Name "zip" p) [e, e2] [] pos) (iZipK X.K ta) := by
  refine ⟨fun pins s σ H R I h => ?_⟩
  refine Call_ (ld_blt I hg hm PyProof.Rows.boot_zip (PyProof.Rows.callWith_type1 (thn (ha.run pos pins s σ H _ I h) fun us s1 ⟨vs, H1, I1, r1, q1⟩ => ?_) hs hpl))
  obtain ⟨k1, k2, a, b, xs, ys, ex, hqx, hqy, q⟩ := q1
  subst ex
  cases r1 with
  | cons r rr =>
    cases rr with
    | cons r' rr =>
      cases rr
      cases r
      cases r'
      obtain ⟨its, rv, p1⟩ := Inv_sqK I1 hqx
      obtain ⟨its2, rv2, p2⟩ := Inv_sqK I1 hqy
      have la := p1.lt
      have lb := p2.lt
      refine zip_begins2 (begins k1 a its.toArray) (begins k2 b its2.toArray) p1 p2 fun h' hz hTI hTO e1 e2 hsz hk => wpAny_pyIter_zip hz ?_
      have I2 : Inv X pins σ H1 { s1 with heap := h' } := I1.kept (t' := s1.toks) hk
      have S : ZipSep2 (s1.heap.objs.size + 4) (s1.heap.objs.size + 2) (s1.heap.objs.size + 3) s1.heap.objs.size (s1.heap.objs.size + 1) [s1.heap.objs.size, a] [s1.heap.objs.size + 1, b] :=
        zip_sep2 (fp1 := [a]) (fp2 := [b]) (fun c hc => by rw [List.mem_singleton.mp hc]; exact la) (fun c hc => by rw [List.mem_singleton.mp hc]; exact lb)
      refine ⟨s1.heap.objs.size + 4, [s1.heap.objs.size + 4, s1.heap.objs.size + 2, s1.heap.objs.size + 3, s1.heap.objs.size, s1.heap.objs.size + 1], _, _, H1, rfl, I2, turn_zipK (k1 := k1) (k2 := k2) S (Nat.ne_of_lt la) (Nat.ne_of_lt (Nat.lt_succ_of_lt lb)), ⟨hz, hTI, ⟨_, _, hTO⟩, itO_is k1 e1, itO_is k2 e2⟩, fun c hcm => ?_, q⟩
      have e' : c = s1.heap.objs.size + 4 ∨ c = s1.heap.objs.size + 2 ∨ c = s1.heap.objs.size + 3 ∨ c = s1.heap.objs.size ∨ c = s1.heap.objs.size + 1 := by simpa using hcm
      have hle : s1.heap.objs.size ≤ c := by
        rcases e' with z | z | z | z | z
        · rw [z]; exact Nat.le_add_right _ _
        · rw [z]; exact Nat.le_add_right _ _
        · rw [z]; exact Nat.le_add_right _ _
        · rw [z]; exact Nat.le_refl _
        · rw [z]; exact Nat.le_add_right _ _
      exact I1.fpOk hle (I1.hok.fresh hle)
end
end Ev

/-! Ev, part I: what is walked. -/
namespace Ev
open PySem PySem.Spec PyProof.Rows L2
/-- J walks the items its of the operands ds -/
structure WkJ (K : PySem.W.Frag) (J : It) (vs : List V) (ds its : List D) : Prop where
  st : ∀ F H i, Ex F H → Rvs K F H vs ds → i = its.length → J.stop i H
  go : ∀ F H i, Ex F H → Rvs K F H vs ds → i < its.length → J.go i H
  yl : ∀ F H i x H', Ex F H → Rvs K F H vs ds → i < its.length → J.yld i H x H' → ∃ d F', its[i]? = some d ∧ Nw F H F' H' ∧ Dv K F' x d
def tI (K : PySem.W.Frag) (C : Sem0) (k : Wk) (irs : List E) : TI := fun σ H R => ∃ F env ags env' ds its, SR K F H σ env ∧ evAs C irs env = some (ags, env') ∧ rdAs env' ags = some ds ∧ wkL k ds = some its ∧
  ∀ F' H' vs J, Se K σ F H env F' H' env' → RAs K σ F' H' env' H vs ags → WkJ K J vs ds its → R J H'
theorem PI.imp' {X : Cx} {tg e : Expr} {t t' : TI} (h : PI X tg e t) (f : ∀ σ H R, t' σ H R → t σ H R) : PI X tg e t' := ⟨fun pins s σ H R I q => h.run pins s σ H R I (f σ H R q)⟩
section
variable {K : PySem.W.Frag} {C : Sem0} {X : Cx} {tg : Expr}
/-! ### the iterators -/
theorem wk_list {p : Addr} {x : D} {its : List D} (h : items x = some its) (hx : ∀ ts, x ≠ .tup ts) : WkJ K (Itl K p) [.ref p] [x] its := by
  have key : ∀ F H, Ex F H → Rvs K F H [.ref p] [x] → ∃ ws, SqL K H p ws ∧ Dvs K F ws its := fun F H ex r => by
    match x, h, hx, r.1 with
    | .lst xs, h, _, r =>
      cases h
      obtain ⟨p', vs, e, hp, hd⟩ := r.lst ex
      cases e
      exact ⟨vs, .inl (.inl hp), hd⟩
    | .tup xs, _, hx, _ => exact absurd rfl (hx xs)
    | .scr ns, h, _, r =>
      cases h
      obtain ⟨p', e, hp⟩ := r.scr ex
      cases e
      exact ⟨_, hp, Dvs.ofInts ns⟩
  refine ⟨fun F H i ex r hi => ?_, fun F H i ex r hi => ?_, fun F H i x' H' ex r hi y => ?_⟩
  · obtain ⟨ws, h1, h2⟩ := key F H ex r
    exact ⟨ws, h1, by rw [h2.len]; exact Nat.le_of_eq hi.symm⟩
  · obtain ⟨ws, h1, h2⟩ := key F H ex r
    obtain ⟨v, g1, g2⟩ := h2.get (List.getElem?_eq_getElem hi)
    exact ⟨ws, v, h1, g1⟩
  · obtain ⟨ws, h1, h2⟩ := key F H ex r
    obtain ⟨rfl, y2⟩ := y
    obtain ⟨d, g1, g2⟩ := h2.get' (y2 ws h1)
    exact ⟨d, F, g1, Nw.refl ex, g2⟩
theorem wk_tup {p : Addr} {its : List D} : WkJ K (Itt K p) [.ref p] [.tup its] its := by
  have key : ∀ F H, Ex F H → Rvs K F H [.ref p] [.tup its] → ∃ ws, SqT K H p ws ∧ Dvs K F ws its := fun F H ex r => by
    obtain ⟨p', vs, e, hp, _, hd⟩ := r.1.tup ex
    cases e
    exact ⟨vs, hp, hd⟩
  refine ⟨fun F H i ex r hi => ?_, fun F H i ex r hi => ?_, fun F H i x' H' ex r hi y => ?_⟩
  · obtain ⟨ws, h1, h2⟩ := key F H ex r
    exact ⟨ws, h1, by rw [h2.len]; exact Nat.le_of_eq hi.symm⟩
  · obtain ⟨ws, h1, h2⟩ := key F H ex r
    obtain ⟨v, g1, g2⟩ := h2.get (List.getElem?_eq_getElem hi)
    exact ⟨ws, v, h1, g1⟩
  · obtain ⟨ws, h1, h2⟩ := key F H ex r
    obtain ⟨rfl, y2⟩ := y
    obtain ⟨d, g1, g2⟩ := h2.get' (y2 ws h1)
    exact ⟨d, F, g1, Nw.refl ex, g2⟩
theorem rangeD_len {lo : Int} {n : Nat} : (rangeD lo n).length = n := by simp [rangeD]
theorem rangeD_get {lo : Int} {n i : Nat} (h : i < n) : (rangeD lo n)[i]? = some (.int (lo + (i : Nat))) := by
  unfold rangeD
  rw [List.getElem?_map, List.getElem?_range h]; rfl
theorem wk_range {lo : Int} {n : Nat} {vs : List V} {ds : List D} : WkJ K (Itr lo n) vs ds (rangeD lo n) := by
  refine ⟨fun F H i ex r hi => ?_, fun F H i ex r hi => ?_, fun F H i x' H' ex r hi y => ?_⟩
  · rw [rangeD_len] at hi; exact Nat.le_of_eq hi.symm
  · rw [rangeD_len] at hi; exact hi
  · rw [rangeD_len] at hi
    obtain ⟨rfl, rfl⟩ := y
    exact ⟨_, F, rangeD_get hi, Nw.refl ex, .int _⟩
theorem enum_get {c : Int} {xs : List D} {i : Nat} {d : D} (h : xs[i]? = some d) : (enumD c xs)[i]? = some (.tup [.int (c + (i : Nat)), d]) := by
  unfold enumD
  rw [List.getElem?_map, List.getElem?_zipIdx, h]
  simp
/-- the kind of what is walked -/
def kdOf : D → Kd
  | .tup _ => .t
  | _ => .l
theorem items_sq {d : D} {xs : List D} {F H : Hp} {x : V} (ex : Ex F H) (h : items d = some xs) (r : Rv K F H x d) : ∃ p ws, x = .ref p ∧ SqK K (kdOf d) H p ws ∧ Dvs K F ws xs := by
  match d, h, r with
  | .lst ys, h, r =>
    cases h
    obtain ⟨p, vs, e, hp, hd⟩ := r.lst ex
    exact ⟨p, vs, e, .inl (.inl hp), hd⟩
  | .tup ys, h, r =>
    cases h
    obtain ⟨p, vs, e, hp, _, hd⟩ := r.tup ex
    exact ⟨p, vs, e, hp, hd⟩
  | .scr ns, h, r =>
    cases h
    obtain ⟨p, e, hp⟩ := r.scr ex
    exact ⟨p, _, e, hp, Dvs.ofInts ns⟩
theorem wk_enum {p : Addr} {d : D} {c : Int} {xs : List D} {us : List V} {es : List D} (h : items d = some xs) : WkJ K (IteK K (kdOf d) c p) (.ref p :: us) (d :: es) (enumD c xs) := by
  have key : ∀ F H, Ex F H → Rvs K F H (.ref p :: us) (d :: es) → ∃ ws, SqK K (kdOf d) H p ws ∧ Dvs K F ws xs := fun F H ex r => by
    obtain ⟨p', vs, e, hp, hd⟩ := items_sq ex h r.1
    cases e
    exact ⟨vs, hp, hd⟩
  have hl : (enumD c xs).length = xs.length := by simp [enumD]
  refine ⟨fun F H i ex r hi => ?_, fun F H i ex r hi => ?_, fun F H i x' H' ex r hi y => ?_⟩
  · rw [hl] at hi
    obtain ⟨ws, h1, h2⟩ := key F H ex r
    exact ⟨ws, h1, by rw [h2.len]; exact hi⟩
  · rw [hl] at hi
    obtain ⟨ws, h1, h2⟩ := key F H ex r
    obtain ⟨v, g1, g2⟩ := h2.get (List.getElem?_eq_getElem hi)
    exact ⟨ws, v, h1, g1⟩
  · rw [hl] at hi
    obtain ⟨ws, h1, h2⟩ := key F H ex r
    obtain ⟨T, x, rfl, hT, rfl, y2⟩ := y
    obtain ⟨d', g1, g2⟩ := h2.get' (y2 ws h1)
    refine ⟨_, upd F T (.tup [.int (c + (i : Nat)), x]), enum_get g1, Nw.newF ex hT, .tup (.inl (.inl upd_same)) ?_⟩
    exact .cons (.int _) (.cons (g2.ex (Ex.new (fnone ex hT))) .nil)
theorem wk_zip {p q : Addr} {d d2 : D} {xs ys : List D} (hx : items d = some xs) (hy : items d2 = some ys) : WkJ K (ItzK K (kdOf d) (kdOf d2) p q) [.ref p, .ref q] [d, d2] (List.zipWith (fun x y => .tup [x, y]) xs ys) := by
  have key : ∀ F H, Ex F H → Rvs K F H [.ref p, .ref q] [d, d2] → ∃ ws us, SqK K (kdOf d) H p ws ∧ Dvs K F ws xs ∧ SqK K (kdOf d2) H q us ∧ Dvs K F us ys := fun F H ex r => by
    obtain ⟨p', vs, e, hp, hd⟩ := items_sq ex hx r.1
    obtain ⟨q', us, e', hq, hd'⟩ := items_sq ex hy r.2.1
    cases e; cases e'
    exact ⟨vs, us, hp, hd, hq, hd'⟩
  have hl : (List.zipWith (fun x y => D.tup [x, y]) xs ys).length = min xs.length ys.length := by simp
  refine ⟨fun F H i ex r hi => ?_, fun F H i ex r hi => ?_, fun F H i x' H' ex r hi y => ?_⟩
  · rw [hl] at hi
    obtain ⟨ws, us, h1, h2, h3, h4⟩ := key F H ex r
    refine ⟨ws, us, h1, h3, ?_⟩
    rw [h2.len, h4.len]; omega
  · rw [hl] at hi
    obtain ⟨ws, us, h1, h2, h3, h4⟩ := key F H ex r
    obtain ⟨v, g1, g2⟩ := h2.get (List.getElem?_eq_getElem (show i < xs.length by omega))
    obtain ⟨u, g3, g4⟩ := h4.get (List.getElem?_eq_getElem (show i < ys.length by omega))
    exact ⟨ws, us, v, u, h1, h3, g1, g3⟩
  · obtain ⟨ws, us, h1, h2, h3, h4⟩ := key F H ex r
    obtain ⟨T, x, y, rfl, hT, rfl, y2, y3⟩ := y
    obtain ⟨d', g1, g2⟩ := h2.get' (y2 ws h1)
    obtain ⟨e, g3, g4⟩ := h4.get' (y3 us h3)
    refine ⟨.tup [d', e], upd F T (.tup [x, y]), ?_, Nw.newF ex hT, .tup (.inl (.inl upd_same)) ?_⟩
    · rw [List.getElem?_zipWith, g1, g3]
    · exact .cons (g2.ex (Ex.new (fnone ex hT))) (.cons (g4.ex (Ex.new (fnone ex hT))) .nil)
/-- a list or a tuple -/
theorem pi_seq {l : Expr} {tl : TE} (hl : PE X l tl) : PI X tg l (fun σ H R => tl σ H fun x H1 => ∃ a, x = .ref a ∧ (((∃ xs, SqL X.K H1 a xs) ∧ R (Itl X.K a) H1) ∨ ((∃ xs, SqT X.K H1 a xs) ∧ R (Itt X.K a) H1))) := by
  refine ⟨fun pins s σ H R I h => thn (hl.run pins s σ H _ I h) fun v s1 ⟨x, H1, I1, r1, a, ex, c⟩ => ?_⟩
  subst ex
  cases r1
  have one : ∀ b ∈ [s1.heap.objs.size], FpOk X pins H1 b := fun b hb => by
    rw [List.mem_singleton.mp hb]
    exact I1.fpOk (Nat.le_refl _) (I1.hok.fresh (Nat.le_refl _))
  rcases c with ⟨⟨xs, hq⟩, q⟩ | ⟨⟨xs, hq⟩, q⟩
  · obtain ⟨its, rv, pl, hz⟩ := I1.list hq
    exact wpAny_pyIter_list pl.isList ⟨_, _, _, _, H1, rfl, I1.kept (t' := s1.toks) fun b o e => Heap.get?_push_of_some _ e, turn_list a s1.heap.objs.size, ⟨_, Heap.get?_push_size _ rfl, rfl, rfl⟩, one, q⟩
  · obtain ⟨its, rv, pl, hz⟩ := I1.tuple hq
    exact wpAny_pyIter_tuple (show s1.heap.IsTuple a its.toArray from pl) ⟨_, _, _, _, H1, rfl, I1.kept (t' := s1.toks) fun b o e => Heap.get?_push_of_some _ e, turn_tuple a s1.heap.objs.size, ⟨_, Heap.get?_push_size _ rfl, rfl, rfl⟩, one, q⟩
theorem i_seq {l : Expr} {ia : E} (hl : PE X l (tE X.K C ia)) : PI X tg l (tI X.K C .seq [ia]) := by
  refine PI.imp' (pi_seq hl) fun σ H R ⟨F, env, ags, env', ds, its, s, e1, e2, e3, q⟩ => ?_
  obtain ⟨p, g1, g2, g3⟩ := evAs_one (show evAs C [ia] env = some (ags, env') from e1)
  refine ⟨F, env, p.1, p.2, s, g1, fun F' H' v S r => ?_⟩
  subst g2 g3
  obtain ⟨d, k1, k2⟩ := rdAs_one e2
  subst k2
  have rd := r.rd S.sr k1
  have rs : RAs X.K σ F' H' p.2 H [v] [p.1] := .cons r .nil fun _ _ z => by cases z
  match d, e3, rd with
  | .lst xs, e3, rd =>
    obtain ⟨a, vs, rfl, hp, hd⟩ := rd.lst S.sr.fh
    exact ⟨a, rfl, .inl ⟨⟨vs, .inl (.inl hp)⟩, q F' H' _ _ S rs (wk_list e3 (fun _ z => by cases z))⟩⟩
  | .scr ns, e3, rd =>
    obtain ⟨a, rfl, hp⟩ := rd.scr S.sr.fh
    exact ⟨a, rfl, .inl ⟨⟨_, hp⟩, q F' H' _ _ S rs (wk_list e3 (fun _ z => by cases z))⟩⟩
  | .tup xs, e3, rd =>
    obtain ⟨a, vs, rfl, hp, _, hd⟩ := rd.tup S.sr.fh
    cases e3
    exact ⟨a, rfl, .inr ⟨⟨vs, hp⟩, q F' H' _ _ S rs wk_tup⟩⟩
theorem i_range1 {a : Expr} {ia : E} {p pos : Pos} (hg : Gl X "range") (hm : X.mg "range" = none) (ha : PA X [a] (tA X.K C [ia])) (hst : ∀ y z, a ≠ .Starred y z) : PI X tg (.Call (.Name "range" p) [a] [] pos) (tI X.K C .range [ia]) := by
  refine PI.imp' (pi_range1 hg hm ha (hst_of hst _)) fun σ H R ⟨F, env, ags, env', ds, its, s, e1, e2, e3, q⟩ => ?_
  refine ⟨F, env, ags, env', s, e1, fun F' H' vs S r => ?_⟩
  have rv := r.rd S.sr e2
  have hd1 : ∃ d, ds = [d] := by
    obtain ⟨p0, _, g2, _⟩ := evAs_one (show evAs C [ia] env = some (ags, env') from e1)
    rw [g2] at e2
    obtain ⟨d, _, h⟩ := rdAs_one e2
    exact ⟨d, h⟩
  obtain ⟨d0, rfl⟩ := hd1
  match d0, rv, e3 with
  | .int j, rv, e3 =>
    obtain ⟨x, rfl, rx⟩ := Rvs.one rv
    have := rx.int
    subst this
    have e3' : (if -(2 ^ 62) ≤ j ∧ j < 2 ^ 62 then some (rangeD 0 j.toNat) else none) = some its := e3
    split at e3'
    · rename_i h
      cases e3'
      exact ⟨j, rfl, h.1, h.2, q F' H' _ _ S r wk_range⟩
    · cases e3'
theorem i_range2 {a b : Expr} {ia ib : E} {p pos : Pos} (hg : Gl X "range") (hm : X.mg "range" = none) (ha : PA X [a, b] (tA X.K C [ia, ib])) (hst : ∀ y z, a ≠ .Starred y z) (hst2 : ∀ y z, b ≠ .Starred y z) : PI X tg (.Call (.Name "range" p) [a, b] [] pos) (tI X.K C .range [ia, ib]) := by
  have h2 : starEach [b] X.env = [(false, eval b X.env)] := hst_of hst2 _
  refine PI.imp' (pi_range2 hg hm ha (by rw [hst_of hst, h2]) h2) fun σ H R ⟨F, env, ags, env', ds, its, s, e1, e2, e3, q⟩ => ?_
  refine ⟨F, env, ags, env', s, e1, fun F' H' vs S r => ?_⟩
  have rv := r.rd S.sr e2
  have hd1 : ∃ d d', ds = [d, d'] := by
    obtain ⟨p0, p1, _, _, g2, _⟩ := evAs_two (show evAs C [ia, ib] env = some (ags, env') from e1)
    rw [g2] at e2
    obtain ⟨d, d', _, _, h⟩ := rdAs_two e2
    exact ⟨d, d', h⟩
  obtain ⟨d0, d1, rfl⟩ := hd1
  match d0, d1, rv, e3 with
  | .int i, .int j, rv, e3 =>
    obtain ⟨x, y, rfl, rx, ry⟩ := Rvs.two rv
    have := rx.int
    subst this
    have := ry.int
    subst this
    have e3' : (if -(2 ^ 62) ≤ i ∧ i < 2 ^ 62 ∧ -(2 ^ 62) ≤ j ∧ j < 2 ^ 62 then some (rangeD i (j - i).toNat) else none) = some its := e3
    split at e3'
    · rename_i h
      cases e3'
      exact ⟨i, j, rfl, h, q F' H' _ _ S r wk_range⟩
    · cases e3'
theorem i_enum {e : Expr} {ia : E} {p pos tpos : Pos} {elts : List Expr} {kk : Nat} (hg : Gl X "enumerate") (hm : X.mg "enumerate" = none) (ha : PA X [e] (tA X.K C [ia])) (hst : ∀ y z, e ≠ .Starred y z) : PI X (.Tuple elts kk tpos) (.Call (.Name "enumerate" p) [e] [] pos) (tI X.K C .enum [ia]) := by
  refine PI.imp' (pi_enumK hg hm ha (hst_of hst _)) fun σ H R ⟨F, env, ags, env', ds, its, s, e1, e2, e3, q⟩ => ?_
  refine ⟨F, env, ags, env', s, e1, fun F' H' vs S r => ?_⟩
  have rv := r.rd S.sr e2
  have hd1 : ∃ d, ds = [d] := by
    obtain ⟨p0, _, g2, _⟩ := evAs_one (show evAs C [ia] env = some (ags, env') from e1)
    rw [g2] at e2
    obtain ⟨d, _, h⟩ := rdAs_one e2
    exact ⟨d, h⟩
  obtain ⟨d, rfl⟩ := hd1
  obtain ⟨xs, g1, g2⟩ := Option.bind_eq_some_iff.mp (show (items d).bind (fun xs => some (enumD 0 xs)) = some its from e3)
  cases g2
  obtain ⟨x, rfl, rx⟩ := Rvs.one rv
  obtain ⟨a, ws, rfl, hp, hd⟩ := items_sq S.sr.fh g1 rx
  exact ⟨kdOf d, a, ws, rfl, hp, q F' H' _ _ S r (wk_enum g1)⟩
theorem i_enum2 {e e2 : Expr} {ia ib : E} {p pos tpos : Pos} {elts : List Expr} {kk : Nat} (hg : Gl X "enumerate") (hm : X.mg "enumerate" = none) (ha : PA X [e, e2] (tA X.K C [ia, ib])) (hst : ∀ y z, e ≠ .Starred y z) (hst2 : ∀ y z, e2 ≠ .Starred y z) :
    PI X (.Tuple elts kk tpos) (.Call (.Name "enumerate" p) [e, e2] [] pos) (tI X.K C .enum [ia, ib]) := by
  have h2 : starEach [e2] X.env = [(false, eval e2 X.env)] := hst_of hst2 _
  refine PI.imp' (pi_enumK2 hg hm ha (hst_of hst _) (by rw [h2]; rfl)) fun σ H R ⟨F, env, ags, env', ds, its, s, e1, e2', e3, q⟩ => ?_
  refine ⟨F, env, ags, env', s, e1, fun F' H' vs S r => ?_⟩
  have rv := r.rd S.sr e2'
  have hd1 : ∃ d d', ds = [d, d'] := by
    obtain ⟨p0, p1, _, _, g2, _⟩ := evAs_two (show evAs C [ia, ib] env = some (ags, env') from e1)
    rw [g2] at e2'
    obtain ⟨d, d', _, _, h⟩ := rdAs_two e2'
    exact ⟨d, d', h⟩
  obtain ⟨d0, d1, rfl⟩ := hd1
  match d0, d1, rv, e3 with
  | d, .int j, rv, e3 =>
    have e3' : (if -(2 ^ 62) ≤ j ∧ j < 2 ^ 62 then (items d).bind fun xs => some (enumD j xs) else none) = some its := e3
    split at e3'
    · rename_i h
      obtain ⟨xs, g1, g2⟩ := Option.bind_eq_some_iff.mp e3'
      cases g2
      obtain ⟨x, y, rfl, rx, ry⟩ := Rvs.two rv
      have := ry.int
      subst this
      obtain ⟨a, ws, rfl, hp, hd⟩ := items_sq S.sr.fh g1 rx
      exact ⟨kdOf d, a, ws, j, rfl, h.1, h.2, hp, q F' H' _ _ S r (wk_enum g1)⟩
    · cases e3'
theorem i_zip {e e2 : Expr} {ia ib : E} {p pos tpos : Pos} {elts : List Expr} {kk : Nat} (hg : Gl X "zip") (hm : X.mg "zip" = none) (ha : PA X [e, e2] (tA X.K C [ia, ib])) (hst : ∀ y z, e ≠ .Starred y z) (hst2 : ∀ y z, e2 ≠ .Starred y z) :
    PI X (.Tuple elts kk tpos) (.Call (.Name "zip" p) [e, e2] [] pos) (tI X.K C .zip [ia, ib]) := by
  have h2 : starEach [e2] X.env = [(false, eval e2 X.env)] := hst_of hst2 _
  refine PI.imp' (pi_zipK hg hm ha (hst_of hst _) (by rw [h2]; rfl)) fun σ H R ⟨F, env, ags, env', ds, its, s, e1, e2', e3, q⟩ => ?_
  refine ⟨F, env, ags, env', s, e1, fun F' H' vs S r => ?_⟩
  have rv := r.rd S.sr e2'
  have hd1 : ∃ d d', ds = [d, d'] := by
    obtain ⟨p0, p1, _, _, g2, _⟩ := evAs_two (show evAs C [ia, ib] env = some (ags, env') from e1)
    rw [g2] at e2'
    obtain ⟨d, d', _, _, h⟩ := rdAs_two e2'
    exact ⟨d, d', h⟩
  obtain ⟨d0, d1, rfl⟩ := hd1
  obtain ⟨xs, g1, g2⟩ := Option.bind_eq_some_iff.mp (show ((items d0).bind fun xs => (items d1).bind fun ys => some (List.zipWith (fun x y => .tup [x, y]) xs ys)) = some its from e3)
  obtain ⟨ys, g3, g4⟩ := Option.bind_eq_some_iff.mp g2
  cases g4
  obtain ⟨x, y, rfl, rx, ry⟩ := Rvs.two rv
  obtain ⟨a, ws, rfl, hp, hd⟩ := items_sq S.sr.fh g1 rx
  obtain ⟨b, us, rfl, hq, hd'⟩ := items_sq S.sr.fh g3 ry
  exact ⟨kdOf d0, kdOf d1, a, b, ws, us, rfl, hp, hq, q F' H' _ _ S r (wk_zip g1 g3)⟩
end
end Ev

/-! Ev, part J: targets. -/
namespace Ev
open PySem PySem.Spec PyProof.Rows L2
/-- lent and walked lists stay in their names -/
def Kp (env : En) (σ σ' : L2.St) : Prop := ∀ (i : Nat) (xs : List D) (m : Nat), env[i]? = some (.own xs (m + 1)) → σ'[i]? = σ[i]?
theorem Kp.refl (env : En) (σ : L2.St) : Kp env σ σ := fun _ _ _ _ => rfl
theorem Kp.trans {env env1 : En} {σ σ1 σ2 : L2.St} (a : Kp env σ σ1) (l : Lk env env1) (b : Kp env1 σ1 σ2) : Kp env σ σ2 := fun i xs m e => by
  obtain ⟨ys, e1, _⟩ := l i xs m e
  rw [b i ys m e1, a i xs m e]
/-- what a store leaves: fr the lists stored -/
structure Gp (fr : List Addr) (F H : Hp) (σ : L2.St) (env : En) (F' H' : Hp) (σ' : L2.St) (env' : En) : Prop where
  fe : Ex F F'
  dom : ∀ a, H a ≠ none → H' a ≠ none
  keep : ∀ a, a ∉ fr → ¬ Ow σ env a → H a ≠ none → H' a = H a ∧ (F a = none → F' a = none) ∧ ¬ Ow σ' env' a
  kp : Kp env σ σ'
theorem Gp.refl {F H : Hp} {σ : L2.St} {env : En} : Gp [] F H σ env F H σ env := ⟨Ex.refl _, fun _ h => h, fun a _ n _ => ⟨rfl, fun h => h, n⟩, Kp.refl _ _⟩
section
variable {K : PySem.W.Frag} {C : Sem0} {X : Cx} {F F' H H' F0 H0 F1 H1 : Hp} {σ σ' σ0 σ1 : L2.St} {env env' env0 env1 : En}
theorem RA.gp {fr : List Addr} (g : Gp fr F H σ env F' H' σ' env') {v : V} {t : T} (h : RA K σ F H env H0 v (.v t)) (hn : ∀ p ∈ frA v (.v t), p ∉ fr) : RA K σ' F' H' env' H0 v (.v t) := by
  cases t with
  | d x => exact Dv.ex h g.fe
  | fr xs =>
    obtain ⟨p, vs, h1, h2, h3, h4, h5, h6⟩ := h
    subst h1
    obtain ⟨k1, k2, k3⟩ := g.keep p (hn p (by simp [frA])) h6 (by rw [h2]; exact fun z => by cases z)
    exact ⟨p, vs, rfl, by rw [k1]; exact h2, k2 h3, h4.ex g.fe, h5, k3⟩
theorem RAs.gp {fr : List Addr} (g : Gp fr F H σ env F' H' σ' env') : ∀ {vs : List V} {ts : List T}, RAs K σ F H env H0 vs (ts.map .v) → (∀ p ∈ frAs vs (ts.map .v), p ∉ fr) → RAs K σ' F' H' env' H0 vs (ts.map .v)
  | [], [], _, _ => .nil
  | _ :: _, [], h, _ => by cases h
  | [], _ :: _, h, _ => by cases h
  | v :: vs, t :: ts, .cons h r n, hn => .cons (h.gp g fun p hp => hn p (List.mem_append_left _ hp)) (RAs.gp g r fun p hp => hn p (List.mem_append_right _ hp)) n
theorem Gp.trans {fr fr' : List Addr} (a : Gp fr F H σ env F1 H1 σ1 env1) (l : Lk env env1) (b : Gp fr' F1 H1 σ1 env1 F' H' σ' env') : Gp (fr ++ fr') F H σ env F' H' σ' env' := by
  refine ⟨a.fe.trans b.fe, fun x h => b.dom x (a.dom x h), fun x hx n h => ?_, a.kp.trans l b.kp⟩
  simp only [List.mem_append, not_or] at hx
  obtain ⟨k1, k2, k3⟩ := a.keep x hx.1 n h
  obtain ⟨g1, g2, g3⟩ := b.keep x hx.2 k3 (a.dom x h)
  exact ⟨g1.trans k1, fun z => g2 (k2 z), g3⟩
/-- an expression's step, as such -/
theorem Se.gp (s : Se K σ F H env F' H' env') : Gp [] F H σ env F' H' σ env' := by
  refine ⟨s.fe, s.dom, fun a _ n h => ?_, Kp.refl _ _⟩
  refine ⟨?_, fun z => s.newf a h z n, fun z => n (s.ow a z)⟩
  cases e : H a with
  | none => exact absurd e h
  | some o => exact s.keep a o e n

mutual
def tns : Tn → List Nat
  | .nm i => [i]
  | .tp ts => tnss ts
def tnss : List Tn → List Nat
  | [] => []
  | t :: ts => tns t ++ tnss ts
end
def tgn : Tg → List Nat
  | .n t => tns t
  | .sb _ _ => []
/-- a target's reading -/
def gT (K : PySem.W.Frag) (C : Sem0) (g : Tg) : TG := fun v σ H Q => ∃ F0 H0 σ0 env0 F env t env', Ss K F0 H0 σ0 env0 F H σ env ∧ RA K σ F H env H0 v (.v t) ∧ putG C g t env = some env' ∧
  ∀ F' H' σ', Ss K F0 H0 σ0 env0 F' H' σ' env' → Gp (frA v (.v t)) F H σ env F' H' σ' env' → (∀ j : Nat, j ∉ tgn g → σ'[j]? = σ[j]?) → Q σ' H'
def gD (K : PySem.W.Frag) (t : Tn) : TG := fun v σ H Q => ∃ F0 H0 σ0 env0 F env d env', Ss K F0 H0 σ0 env0 F H σ env ∧ Dv K F v d ∧ bindN t d env = some env' ∧
  ∀ σ', Ss K F0 H0 σ0 env0 F H σ' env' → Gp [] F H σ env F H σ' env' → (∀ j : Nat, j ∉ tns t → σ'[j]? = σ[j]?) → Q σ' H
def gDs (K : PySem.W.Frag) (ts : List Tn) : TGs := fun vs σ H Q => ∃ F0 H0 σ0 env0 F env ds env', Ss K F0 H0 σ0 env0 F H σ env ∧ Dvs K F vs ds ∧ bindNs ts ds env = some env' ∧
  ∀ σ', Ss K F0 H0 σ0 env0 F H σ' env' → Gp [] F H σ env F H σ' env' → (∀ j : Nat, j ∉ tnss ts → σ'[j]? = σ[j]?) → Q σ' H
def gTs (K : PySem.W.Frag) (C : Sem0) (gs : List Tg) : TGs := fun vs σ H Q => ∃ F0 H0 σ0 env0 F env ts env', Ss K F0 H0 σ0 env0 F H σ env ∧ RAs K σ F H env H0 vs (ts.map .v) ∧ putGs C gs ts env = some env' ∧
  ∀ F' H' σ', Ss K F0 H0 σ0 env0 F' H' σ' env' → Kp env σ σ' → Q σ' H'
theorem PG.imp' {e : Expr} {t t' : TG} (h : PG X e t) (f : ∀ v σ H Q, t' v σ H Q → t v σ H Q) : PG X e t' := ⟨fun pins s σ H v u Q I r q => h.run pins s σ H v u Q I r (f v σ H Q q)⟩
theorem PGs.imp' {e : List Expr} {t t' : TGs} (h : PGs X e t) (f : ∀ v σ H Q, t' v σ H Q → t v σ H Q) : PGs X e t' := ⟨fun pins s σ H v u Q I r q => h.run pins s σ H v u Q I r (f v σ H Q q)⟩
theorem putN_inv {i : Nat} {t : T} (e : putN i t env = some env') : env' = env.set i (slT t) ∧ i < env.length ∧ ∀ xs m, env[i]? ≠ some (.own xs (m + 1)) := by
  simp only [putN] at e
  split at e
  · cases e
  · rename_i q1 q2
    cases e
    exact ⟨rfl, (List.getElem?_eq_some_iff.mp q2).1, fun xs m z => by rw [q2] at z; cases z; exact q1 _ _ rfl⟩
  · cases e
theorem putN_gp {i : Nat} {v : V} {t : T} (h : RA K σ F H env H0 v (.v t)) (e : putN i t env = some env') : Gp (frA v (.v t)) F H σ env F H (σ.set i (some v)) env' := by
  obtain ⟨rfl, hi, hl⟩ := putN_inv e
  refine ⟨Ex.refl _, fun _ h => h, fun a ha n _ => ⟨rfl, fun h => h, ?_⟩, fun j xs m e1 => ?_⟩
  · rintro ⟨j, xs, m, e1, e2⟩
    rcases set_get e1 with ⟨rfl, z⟩ | ⟨nj, z⟩
    · cases t with
      | d x => cases z
      | fr ys =>
        obtain ⟨p, vs, rfl, _⟩ := h
        rw [List.getElem?_set] at e2
        simp only [if_pos] at e2
        split at e2
        · cases e2; exact ha (by simp [frA])
        · cases e2
    · rw [List.getElem?_set_ne (Ne.symm nj)] at e2
      exact n ⟨j, xs, m, z, e2⟩
  · have : i ≠ j := fun z => by subst z; exact hl _ _ e1
    exact List.getElem?_set_ne this
theorem g_nm {i : Nat} {x : Str} {pos : Pos} (hN : X.N.Nodup) (hi : X.N[i]? = some x) (hx : Loc X.env.scope x) (hf : X.fn x = true ∨ X.env.scope.names.lookup x = some .local) : PG X (.Name x pos) (gT X.K C (.n (.nm i))) := by
  refine PG.imp' (pg_name hN hi hx hf) fun v σ H Q ⟨F0, H0, σ0, env0, F, env, t, env', S, r, e, q⟩ => ?_
  refine q F H _ (putN_ok S r e) (putN_gp r e) fun j hj => ?_
  have : i ≠ j := fun z => hj (by subst z; simp [tgn, tns])
  exact List.getElem?_set_ne this
theorem gd_nm {i : Nat} {x : Str} {pos : Pos} (hN : X.N.Nodup) (hi : X.N[i]? = some x) (hx : Loc X.env.scope x) (hf : X.fn x = true ∨ X.env.scope.names.lookup x = some .local) : PG X (.Name x pos) (gD X.K (.nm i)) := by
  refine PG.imp' (pg_name hN hi hx hf) fun v σ H Q ⟨F0, H0, σ0, env0, F, env, d, env', S, r, e, q⟩ => ?_
  have e' : putN i (.d d) env = some env' := by simpa [bindN] using e
  have r' : RA X.K σ F H env H0 v (.v (.d d)) := r
  have g := putN_gp r' e'
  have hf : frA v (.v (.d d)) = [] := by cases v <;> rfl
  rw [hf] at g
  refine q _ (putN_ok S r' e') g fun j hj => ?_
  have : i ≠ j := fun z => hj (by subst z; simp [tns])
  exact List.getElem?_set_ne this
theorem gds_nil : PGs X [] (gDs X.K []) := by
  refine PGs.imp' pgs_nil fun vs σ H Q ⟨F0, H0, σ0, env0, F, env, ds, env', S, r, e, q⟩ => ?_
  cases r with
  | nil =>
    simp only [bindNs] at e
    cases e
    exact ⟨rfl, q _ S Gp.refl fun _ _ => rfl⟩
  | cons a b => simp [bindNs] at e
theorem each_of {e : Expr} {es : List Expr} (h : ∀ y z, e ≠ .Starred y z) (env : Env) : (assignEach (e :: es) env).map (·.2) = assign e env :: (assignEach es env).map (·.2) := by
  cases e <;> first | rfl | exact absurd rfl (h _ _)
theorem gds_cons {e : Expr} {es : List Expr} {t : Tn} {ts : List Tn} (h1 : PG X e (gD X.K t)) (h2 : PGs X es (gDs X.K ts)) (hst : ∀ y z, e ≠ .Starred y z) : PGs X (e :: es) (gDs X.K (t :: ts)) := by
  refine PGs.imp' (pgs_cons h1 h2 (each_of hst _)) fun vs σ H Q ⟨F0, H0, σ0, env0, F, env, ds, env', S, r, e, q⟩ => ?_
  cases r with
  | nil => simp [bindNs] at e
  | cons a b =>
    simp only [bindNs] at e
    obtain ⟨e1, g1, g2⟩ := bs e
    refine ⟨_, _, rfl, F0, H0, σ0, env0, F, env, _, e1, S, a, g1, fun σ' S1 G1 o1 => ⟨F0, H0, σ0, env0, F, e1, _, env', S1, b, g2, fun σ'' S2 G2 o2 => ?_⟩⟩
    refine q σ'' S2 (G1.trans (bindN_lk t g1) G2) fun j hj => ?_
    simp only [tnss, List.mem_append, not_or] at hj
    rw [o2 j hj.2, o1 j hj.1]
theorem find_of {es : List Expr} (h : ∀ e ∈ es, ∀ y z, e ≠ .Starred y z) (env : Env) : (assignEach es env).length = es.length ∧ (assignEach es env).findIdx? (·.1) = none := by
  induction es with
  | nil => exact ⟨rfl, rfl⟩
  | cons e es ih =>
    obtain ⟨h1, h2⟩ := ih fun e he => h e (List.mem_cons_of_mem _ he)
    have e1 : assignEach (e :: es) env = (false, assign e env) :: assignEach es env := by
      have := h e (List.mem_cons_self ..)
      cases e <;> first | rfl | exact absurd rfl (this _ _)
    rw [e1]
    refine ⟨congrArg Nat.succ h1, ?_⟩
    rw [List.findIdx?_cons, h2]; rfl
theorem bindNs_len2 : ∀ {ts : List Tn} {ds : List D} {env : En}, bindNs ts ds env = some env' → ts.length = ds.length
  | [], [], _, _ => rfl
  | [], _ :: _, _, h => by simp [bindNs] at h
  | _ :: _, [], _, h => by simp [bindNs] at h
  | t :: ts, d :: ds, env, h => by
    simp only [bindNs] at h
    obtain ⟨e1, g1, g2⟩ := bs h
    exact congrArg Nat.succ (bindNs_len2 g2)
theorem pg_any {es : List Expr} {k : Nat} {pos : Pos} {t : TGs} {n : Nat} (hc : X.calm = true) (h : PGs X es t) (hn : (assignEach es X.env).length = n) (hst : (assignEach es X.env).findIdx? (·.1) = none) :
    PG X (.Tuple es k pos) (fun v σ H Q => gTup X.K n t v σ H Q ∨ gUnl X.K n t v σ H Q) :=
  ⟨fun pins s σ H v u Q I r hw => hw.elim (fun hw => (pg_tup (k := k) (pos := pos) hc h hn hst).run pins s σ H v u Q I r hw) (fun hw => (pg_unl (k := k) (pos := pos) hc h hn hst).run pins s σ H v u Q I r hw)⟩
theorem gd_tup {es : List Expr} {ts : List Tn} {k : Nat} {pos : Pos} (hc : X.calm = true) (h : PGs X es (gDs X.K ts)) (hst : ∀ e ∈ es, ∀ y z, e ≠ .Starred y z) (hl : es.length = ts.length) : PG X (.Tuple es k pos) (gD X.K (.tp ts)) := by
  refine PG.imp' (pg_any (n := ts.length) hc h ((find_of hst _).1.trans hl) (find_of hst _).2) fun v σ H Q ⟨F0, H0, σ0, env0, F, env, d, env', S, r, e, q⟩ => ?_
  cases d with
  | lst ds =>
    have e' : bindNs ts ds env = some env' := by simpa [bindN] using e
    cases r with
    | @lst a xs _ sq dv =>
      exact .inr ⟨a, xs, rfl, .inl (.inl (S.sr.fh _ _ sq)), by rw [dv.len, bindNs_len2 e'], F0, H0, σ0, env0, F, env, ds, env', S, dv, e', fun σ' S1 G1 o1 => q σ' S1 G1 (by simpa [tns] using o1)⟩
  | tup ds =>
    have e' : bindNs ts ds env = some env' := by simpa [bindN] using e
    cases r with
    | @tup a xs _ sq dv =>
      exact .inl ⟨a, xs, rfl, sqT_ex S.sr.fh sq, by rw [dv.len, bindNs_len2 e'], F0, H0, σ0, env0, F, env, ds, env', S, dv, e', fun σ' S1 G1 o1 => q σ' S1 G1 (by simpa [tns] using o1)⟩
  | _ => simp [bindN] at e
theorem g_tp {e : Expr} {ts : List Tn} (h : PG X e (gD X.K (.tp ts))) : PG X e (gT X.K C (.n (.tp ts))) := by
  refine PG.imp' h fun v σ H Q ⟨F0, H0, σ0, env0, F, env, t, env', S, r, e, q⟩ => ?_
  cases t with
  | d x =>
    have hf : frA v (.v (.d x)) = [] := by cases v <;> rfl
    rw [hf] at q
    exact ⟨F0, H0, σ0, env0, F, env, x, env', S, r, e, fun σ' S1 G1 o1 => q F H σ' S1 G1 o1⟩
  | fr xs => simp [putG] at e
end
end Ev

/-! Ev, part J2: a place of a list as a target, several targets. -/
namespace Ev
open PySem PySem.Spec PyProof.Rows L2
section
variable {K : PySem.W.Frag} {C : Sem0} {X : Cx} {F F' H H' F0 H0 F1 H1 : Hp} {σ σ' σ0 σ1 : L2.St} {env env' env0 env1 : En}
/-- a list just made becomes data -/
theorem Ss.frz (s : Ss K F0 H0 σ0 env0 F H σ env) {p : Addr} {vs : List V} (hp : H p = some (.lst vs)) (fp : F p = none) (h0 : H0 p = none) (no : ¬ Ow σ env p) : Ss K F0 H0 σ0 env0 (upd F p (.lst vs)) H σ env := by
  have eF : Ex F (upd F p (.lst vs)) := Ex.new fp
  refine ⟨⟨fun a o e => ?_, s.sr.len, fun i x e => ?_, fun i xs m e => ?_, s.sr.inj⟩, s.fe.trans eF, s.keep, fun a h1 h2 h3 => ?_, s.ow, s.dom⟩
  · by_cases ha : a = p
    · subst ha; rw [upd_same] at e; cases e; exact hp
    · rw [upd_ne ha] at e; exact s.sr.fh _ _ e
  · obtain ⟨v, h1, h2⟩ := s.sr.dd i x e
    exact ⟨v, h1, h2.ex eF⟩
  · obtain ⟨q, ws, h1, h2, h3, h4⟩ := s.sr.ow i xs m e
    refine ⟨q, ws, h1, h2, ?_, h4.ex eF⟩
    rw [upd_ne (fun z => by subst z; exact no ⟨i, xs, m, e, h1⟩)]; exact h3
  · rw [upd_ne (fun z => by subst z; exact h1 h0)]; exact s.newf a h1 h2 h3
/-- a stored value as data -/
theorem Ss.asD (s : Ss K F0 H0 σ0 env0 F H σ env) {v : V} {t : T} (h : RA K σ F H env H0 v (.v t)) : ∃ F', Ss K F0 H0 σ0 env0 F' H σ env ∧ Dv K F' v (asD t) ∧ Ex F F' ∧ ∀ a, a ∉ frA v (.v t) → F a = none → F' a = none := by
  cases t with
  | d x => exact ⟨F, s, h, Ex.refl _, fun _ _ z => z⟩
  | fr xs =>
    obtain ⟨p, vs, rfl, h2, h3, h4, h5, h6⟩ := h
    refine ⟨upd F p (.lst vs), s.frz h2 h3 h5 h6, .lst upd_same (h4.ex (Ex.new h3)), Ex.new h3, fun a ha z => ?_⟩
    rw [upd_ne (fun e => ha (by subst e; simp [frA]))]; exact z
theorem setAt_inv {i : Nat} {k x : D} (h : setAt i k x env = some env') : ∃ xs m j n, env[i]? = some (.own xs m) ∧ k = .int j ∧ m ≤ 1 ∧ ixN xs.length j = some n ∧ env' = env.set i (.own (xs.set n x) m) := by
  simp only [setAt] at h
  split at h
  · rename_i xs m j q
    split at h
    · rename_i hm
      obtain ⟨n, h1, h⟩ := bs h
      cases h
      exact ⟨xs, m, j, n, q, rfl, hm, h1, rfl⟩
    · cases h
  · cases h
theorem isOwn_inv {i : Nat} (h : isOwn env i = true) : ∃ xs m, env[i]? = some (.own xs m) := by
  unfold isOwn at h
  split at h
  · rename_i xs m q; exact ⟨xs, m, q⟩
  · cases h
theorem g_sb {i : Nat} {x : Str} {ke : Expr} {k : E} {p pos : Pos} (hN : X.N[i]? = some x) (hv : Vis X.env.scope x) (hd : (x == ("__debug__" : Str)) = false) (hcd : (x == ("__classdict__" : Str)) = false) (hk : PE X ke (tE X.K C k))
    (ha : ∀ v, assign (.Subscript (.Name x p) ke pos) X.env v = (do
      let ov ← holding [v] (eval (.Name x p) X.env)
      let iv ← holding [v, ov] (eval ke X.env)
      standAt pos
      holding [v, ov, iv] (setItem ov iv v)
      release [v, ov, iv] [])) : PG X (.Subscript (.Name x p) ke pos) (gT X.K C (.sb i k)) := by
  refine PG.imp' (pg_sub (pe_var hN hv hd hcd) hk set_list ha) fun v σ H Q ⟨F0, H0, σ0, env0, F, env, t, env', S, r, e, q⟩ => ?_
  simp only [putG] at e
  split at e
  · rename_i ho
    obtain ⟨w, e1, e⟩ := bs e
    obtain ⟨kd, e2, e⟩ := bs e
    obtain ⟨xs0, m0, ho⟩ := isOwn_inv ho
    obtain ⟨a, ws0, g1, _⟩ := S.sr.ow i _ _ ho
    obtain ⟨xs, m, j, n, k1, rfl, k3, k4, rfl⟩ := setAt_inv e
    refine ⟨.ref a, g1, F, env, w.1, w.2, S.sr, e1, fun F1 H1 u S1 r1 => ?_⟩
    have hu := rdA_int S1.sr r1 e2
    subst hu
    have S2 := S.trans S1.ss
    obtain ⟨F2, S3, d3, x3, f3⟩ := S2.asD (r.mono S1)
    obtain ⟨a', ws, g2, g3, g4, g5⟩ := S3.sr.ow i _ _ k1
    rw [g1] at g2; cases g2
    refine ⟨a, ws, j, n, rfl, rfl, g3, by rw [g5.len]; exact k4, ?_⟩
    refine q F2 _ σ (S3.setOwn (n := m) k1 g1 g3 (g5.set d3 n)) ?_ fun _ _ => rfl
    have own : Ow σ w.2 a := ⟨i, xs, m, k1, g1⟩
    refine ⟨S1.fe.trans x3, fun b hb => ?_, fun b hb nb hh => ?_, Kp.refl _ _⟩
    · by_cases z : b = a
      · subst z; rw [upd_same]; exact fun z => by cases z
      · rw [upd_ne z]; exact S1.dom b hb
    · obtain ⟨z1, z2, z3⟩ := S1.gp.keep b (by simp) nb hh
      have nb' : b ≠ a := fun z => z3 (z ▸ own)
      refine ⟨by rw [upd_ne nb']; exact z1, fun z => f3 b hb (z2 z), ?_⟩
      rintro ⟨j', ys, m', e3, e4⟩
      rcases set_get e3 with ⟨rfl, z⟩ | ⟨nj, z⟩
      · rw [g1] at e4; cases e4; exact nb' rfl
      · exact z3 ⟨j', ys, m', z, e4⟩
  · cases e
theorem gs_nil : PGs X [] (gTs X.K C []) := by
  refine PGs.imp' pgs_nil fun vs σ H Q ⟨F0, H0, σ0, env0, F, env, ts, env', S, r, e, q⟩ => ?_
  cases ts with
  | nil =>
    cases r
    simp only [putGs] at e
    cases e
    exact ⟨rfl, q F H _ S (Kp.refl _ _)⟩
  | cons a b => simp [putGs] at e
theorem gs_cons (hC : CLk C) {e : Expr} {es : List Expr} {g : Tg} {gs : List Tg} (h1 : PG X e (gT X.K C g)) (h2 : PGs X es (gTs X.K C gs)) (hst : ∀ y z, e ≠ .Starred y z) : PGs X (e :: es) (gTs X.K C (g :: gs)) := by
  refine PGs.imp' (pgs_cons h1 h2 (each_of hst _)) fun vs σ H Q ⟨F0, H0, σ0, env0, F, env, ts, env', S, r, e, q⟩ => ?_
  cases ts with
  | nil => simp [putGs] at e
  | cons t ts =>
    simp only [putGs] at e
    obtain ⟨e1, g1, g2⟩ := bs e
    cases r with
    | @cons v vs _ _ h r n =>
      refine ⟨v, vs, rfl, F0, H0, σ0, env0, F, env, t, e1, S, h, g1, fun F' H' σ' S1 G1 o1 => ⟨F0, H0, σ0, env0, F', e1, ts, env', S1, ?_, g2, fun F'' H'' σ'' S2 K2 => ?_⟩⟩
      · exact RAs.gp G1 r fun p hp hq => n p hq hp
      · exact q F'' H'' σ'' S2 (G1.kp.trans (putG_ll hC g g1).1 K2)
theorem putGs_len : ∀ {gs : List Tg} {ts : List T} {env : En}, putGs C gs ts env = some env' → gs.length = ts.length
  | [], [], _, _ => rfl
  | [], _ :: _, _, h => by simp [putGs] at h
  | _ :: _, [], _, h => by simp [putGs] at h
  | t :: ts, d :: ds, env, h => by
    simp only [putGs] at h
    obtain ⟨e1, g1, g2⟩ := bs h
    exact congrArg Nat.succ (putGs_len g2)
end
end Ev

/-! Ev, part K: list comprehensions. -/
namespace Ev
open PySem PySem.Spec PyProof.Rows L2
section
variable {K : PySem.W.Frag} {C : Sem0} {X : Cx} {F F' H H' F0 H0 F1 H1 Fc Hc F4 H4 : Hp} {σ σ' σ0 σ1 σ2 σc : L2.St} {env env' env0 env1 envc lk e1 env4 : En} {own : List Nat}
/-- what is walked is still there -/
theorem alive {vs : List V} {ags : List Ag} {ds : List D} (s : SR K F1 H1 σ env1) (r : RAs K σ F1 H1 env1 H0 vs ags) (e : rdAs env1 ags = some ds) (S : Ss K F1 H1 σ (lockA ags env1) Fc Hc σc envc) (kp : Kp (lockA ags env1) σ σc) (l : Lk (lockA ags env1) envc) :
    Rvs K Fc Hc vs ds := by
  have gen : ∀ (as : List Ag) {vs : List V} {ds : List D}, (∀ j, j ∈ refs as → j ∈ refs ags) → RAs K σ F1 H1 env1 H0 vs as → rdAs env1 as = some ds → Rvs K Fc Hc vs ds := by
    intro as
    induction as with
    | nil => intro vs ds _ r e; cases r; cases e; exact True.intro
    | cons a as ih =>
      intro vs ds hj r e
      cases r with
      | @cons v vs _ _ h r n =>
        simp only [rdAs] at e
        obtain ⟨x, e1, e⟩ := bs e
        obtain ⟨xs, e2, e⟩ := bs e
        cases e
        refine ⟨?_, ih (fun j hj' => hj j (by cases a with
          | v t => exact hj'
          | r k => exact List.mem_cons_of_mem _ hj')) r e2⟩
        match a, h, e1, hj with
        | .v (.d y), h, e1, _ => cases e1; exact .inl (Dv.ex h S.fe)
        | .v (.fr ys), ⟨p, ws, h1, h2, h3, h4, h5, h6⟩, e1, _ =>
          cases e1
          have no : ¬ Ow σ (lockA ags env1) p := fun z => h6 (((lockA_ok ags s).2 p).mp z)
          exact .inr ⟨p, ws, ys, h1, rfl, S.keep p _ h2 no, h4.ex S.fe⟩
        | .r j, h, e1, hj =>
          have h' : σ[j]? = some (some v) := h
          have hc : 0 < cntR j ags := cntR_pos (hj j (List.mem_cons_self ..))
          simp only [rdA] at e1
          split at e1
          · rename_i ys m q
            cases e1
            have hl : (lockA ags env1)[j]? = some (.own ys ((m + 2 * cntR j ags - 1) + 1)) := by
              rw [lockA_get, q]; show some (Sl.own ys (m + 2 * cntR j ags)) = _; congr 2; omega
            obtain ⟨zs, g1, g2⟩ := l j _ _ hl
            have := g2 (by omega)
            subst this
            obtain ⟨p, ws, k1, k2, k3, k4⟩ := S.sr.ow j _ _ g1
            rw [kp j _ _ hl, h'] at k1
            cases k1
            exact .inr ⟨p, ws, zs, rfl, rfl, k2, k4⟩
          · rename_i y q
            cases e1
            obtain ⟨w, k1, k2⟩ := s.dd j _ q
            rw [h'] at k1; cases k1
            exact .inl (k2.ex S.fe)
          · cases e1
  exact gen ags (fun _ h => h) r e
/-- a block's turn, from outside -/
theorem blk_back (S : Se K σ F1 H1 lk Fc Hc (backE lk envc own)) (n : Nw Fc Hc F' H') (he : ∀ j : Nat, j ∉ own → e1[j]? = envc[j]?) (hn : ∀ (j : Nat) (xs : List D) (m : Nat), e1[j]? = some (.own xs m) → j ∉ own) (hσ : ∀ j : Nat, j ∉ own → σ2[j]? = σ[j]?)
    (T : Se K σ2 F' H' e1 F4 H4 env4) (hl : env4.length = envc.length) (hlk : lk.length = envc.length) : Se K σ F1 H1 lk F4 H4 (backE lk env4 own) := by
  have ib : ∀ {j : Nat}, j ∈ own → (backE lk envc own)[j]? = lk[j]? := fun h => backE_in hlk h
  have ib4 : ∀ {j : Nat}, j ∈ own → (backE lk env4 own)[j]? = lk[j]? := fun h => backE_in (hlk.trans hl.symm) h
  -- an own address inside is one outside
  have sub : ∀ a, Ow σ2 e1 a → ∃ (j : Nat) (xs : List D) (m : Nat), j ∉ own ∧ (backE lk envc own)[j]? = some (.own xs m) ∧ σ[j]? = some (some (.ref a)) := fun a ⟨j, xs, m, h1, h2⟩ => by
    have hj := hn j xs m h1
    exact ⟨j, xs, m, hj, by rw [backE_ne hj, ← he j hj]; exact h1, by rw [← hσ j hj]; exact h2⟩
  have ow1 : ∀ a, Ow σ2 e1 a → Ow σ (backE lk envc own) a := fun a h => let ⟨j, xs, m, _, h1, h2⟩ := sub a h; ⟨j, xs, m, h1, h2⟩
  have keepIn : ∀ {j : Nat} {xs : List D} {m : Nat}, j ∈ own → lk[j]? = some (.own xs m) → ∃ p vs, σ[j]? = some (some (.ref p)) ∧ H4 p = some (.lst vs) ∧ F4 p = none ∧ Dvs K F4 vs xs ∧ H' p ≠ none ∧ ¬ Ow σ2 e1 p := fun {j xs m} hj e => by
    have e' : (backE lk envc own)[j]? = some (.own xs m) := by rw [ib hj]; exact e
    obtain ⟨p, vs, h1, h2, h3, h4⟩ := S.sr.ow j xs m e'
    have no : ¬ Ow σ2 e1 p := fun z => by
      obtain ⟨j', ys, m', g1, g2, g3⟩ := sub p z
      exact g1 (S.sr.inj j j' _ _ _ _ p e' g2 h1 g3 ▸ hj)
    have nz : H' p ≠ none := by rw [n.h _ _ h2]; exact fun z => by cases z
    exact ⟨p, vs, h1, T.keep p _ (n.h _ _ h2) no, T.newf p nz (n.nf p (by rw [h2]; exact fun z => by cases z) h3) no, (h4.ex n.f).ex T.fe, nz, no⟩
  have ow4 : ∀ (a : Addr) (j : Nat) (xs : List D) (m : Nat), j ∉ own → env4[j]? = some (.own xs m) → σ[j]? = some (some (.ref a)) → Ow σ2 e1 a := fun a j xs m hj h1 h2 => T.ow a ⟨j, xs, m, h1, by rw [hσ j hj]; exact h2⟩
  refine ⟨⟨T.sr.fh, ?_, fun j x e => ?_, fun j xs m e => ?_, fun i j xs m ys k p h1 h2 h3 h4 => ?_⟩, (S.fe.trans n.f).trans T.fe, fun a o h na => ?_, fun a h f na => ?_, fun a ⟨j, xs, m, h1, h2⟩ => ?_, fun a h => ?_⟩
  · rw [backE_len, hl, S.sr.len, backE_len]
  · by_cases hj : j ∈ own
    · rw [ib4 hj] at e
      obtain ⟨v, h1, h2⟩ := S.sr.dd j x (by rw [ib hj]; exact e)
      exact ⟨v, h1, (h2.ex n.f).ex T.fe⟩
    · rw [backE_ne hj] at e
      obtain ⟨v, h1, h2⟩ := T.sr.dd j x e
      exact ⟨v, by rw [← hσ j hj]; exact h1, h2⟩
  · by_cases hj : j ∈ own
    · rw [ib4 hj] at e
      obtain ⟨p, vs, h1, h2, h3, h4, _⟩ := keepIn hj e
      exact ⟨p, vs, h1, h2, h3, h4⟩
    · rw [backE_ne hj] at e
      obtain ⟨p, vs, h1, h2, h3, h4⟩ := T.sr.ow j xs m e
      exact ⟨p, vs, by rw [← hσ j hj]; exact h1, h2, h3, h4⟩
  · by_cases hi : i ∈ own
    · by_cases hj : j ∈ own
      · rw [ib4 hi] at h1
        rw [ib4 hj] at h2
        exact S.sr.inj i j _ _ _ _ p (by rw [ib hi]; exact h1) (by rw [ib hj]; exact h2) h3 h4
      · rw [ib4 hi] at h1
        rw [backE_ne hj] at h2
        obtain ⟨p', vs, g1, _, _, _, _, g2⟩ := keepIn hi h1
        rw [h3] at g1; cases g1
        exact absurd (ow4 p j _ _ hj h2 h4) g2
    · by_cases hj : j ∈ own
      · rw [ib4 hj] at h2
        rw [backE_ne hi] at h1
        obtain ⟨p', vs, g1, _, _, _, _, g2⟩ := keepIn hj h2
        rw [h4] at g1; cases g1
        exact absurd (ow4 p i _ _ hi h1 h3) g2
      · rw [backE_ne hi] at h1
        rw [backE_ne hj] at h2
        exact T.sr.inj i j _ _ _ _ p h1 h2 (by rw [hσ i hi]; exact h3) (by rw [hσ j hj]; exact h4)
  · exact T.keep a o (n.h _ _ (S.keep a o h na)) fun z => na (S.ow a (ow1 a z))
  · have hc := S.dom a h
    refine T.newf a ?_ (n.nf a hc (S.newf a h f na)) fun z => na (S.ow a (ow1 a z))
    cases q : Hc a with
    | none => exact absurd q hc
    | some o => rw [n.h _ _ q]; exact fun z => by cases z
  · by_cases hj : j ∈ own
    · rw [ib4 hj] at h1
      exact ⟨j, xs, m, h1, h2⟩
    · rw [backE_ne hj] at h1
      exact S.ow a (ow1 a (ow4 a j xs m hj h1 h2))
  · refine T.dom a ?_
    cases q : Hc a with
    | none => exact absurd q (S.dom a h)
    | some o => rw [n.h _ _ q]; exact fun z => by cases z
/-- the comprehension's own list grows -/
theorem Se.acc (s0 : SR K F0 H0 σ env0) (S : Se K σ F0 H0 env0 F H env) {p : Addr} {o : HO} (h0 : H0 p = none) (hf : F p = none) : Se K σ F0 H0 env0 F (upd H p o) env := by
  have no : ∀ a, Ow σ env a → a ≠ p := fun a h z => by
    subst z
    obtain ⟨⟨vs, z⟩, _⟩ := s0.owH (S.ow a h)
    rw [h0] at z; cases z
  refine ⟨⟨fun a u e => ?_, S.sr.len, S.sr.dd, fun i xs m e => ?_, S.sr.inj⟩, S.fe, fun a u h n => ?_, S.newf, S.ow, fun a h => ?_⟩
  · rw [upd_ne (fun z => by subst z; rw [hf] at e; cases e)]; exact S.sr.fh a u e
  · obtain ⟨q, ws, h1, h2, h3, h4⟩ := S.sr.ow i xs m e
    exact ⟨q, ws, h1, by rw [upd_ne (no q ⟨i, xs, m, e, h1⟩)]; exact h2, h3, h4⟩
  · rw [upd_ne (fun z => by subst z; rw [h0] at h; cases h)]; exact S.keep a u h n
  · by_cases z : a = p
    · subst z; exact absurd h0 h
    · rw [upd_ne z]; exact S.dom a h
/-! ### the parts of a block -/
def tCd (K : PySem.W.Frag) (C : Sem0) (conds : List E) : TT := fun σ H Q => ∃ F env b env', SR K F H σ env ∧ evCond C conds env = some (b, env') ∧ ∀ F' H', Se K σ F H env F' H' env' → Q b H'
theorem pts_nil' : PTs X [] (tCd X.K C []) := ⟨fun pins s σ H Q I ⟨F, env, b, env', s0, e, q⟩ => by
  simp only [evCond] at e
  cases e
  exact pts_nil.run pins s σ H Q I (q F H (Se.refl s0))⟩
theorem pts_one' {c : Expr} {ic : E} (h : PT X c (tT X.K C ic)) : PTs X [c] (tCd X.K C [ic]) := ⟨fun pins s σ H Q I ⟨F, env, b, env', s0, e, q⟩ => by
  simp only [evCond] at e
  obtain ⟨p, e1, e⟩ := bs e
  obtain ⟨k, e2, e⟩ := bs e
  cases e
  exact (pts_one h).run pins s σ H Q I ⟨F, env, p.1, p.2, b, s0, e1, e2, q⟩⟩
mutual
theorem bindN_out : ∀ (t : Tn) {x : D} {env env' : En}, bindN t x env = some env' → (∀ j : Nat, j ∉ tns t → env'[j]? = env[j]?) ∧ ∀ (j : Nat) (xs : List D) (m : Nat), env'[j]? = some (.own xs m) → j ∉ tns t
  | .nm i, x, env, env', h => by
    obtain ⟨rfl, hi, _⟩ := putN_inv (by simpa [bindN] using h)
    refine ⟨fun j hj => List.getElem?_set_ne (fun z => hj (by subst z; simp [tns])), fun j xs m e hj => ?_⟩
    have : j = i := by simpa [tns] using hj
    subst this
    rw [List.getElem?_set_self hi] at e
    cases e
  | .tp ts, x, env, env', h => by
    cases x with
    | tup xs => simpa [tns] using bindNs_out ts (by simpa [bindN] using h)
    | lst xs => simpa [tns] using bindNs_out ts (by simpa [bindN] using h)
    | _ => simp [bindN] at h
theorem bindNs_out : ∀ (ts : List Tn) {xs : List D} {env env' : En}, bindNs ts xs env = some env' → (∀ j : Nat, j ∉ tnss ts → env'[j]? = env[j]?) ∧ ∀ (j : Nat) (xs : List D) (m : Nat), env'[j]? = some (.own xs m) → j ∉ tnss ts
  | [], [], env, _, h => by
    simp only [bindNs] at h; cases h
    exact ⟨fun _ _ => rfl, fun j xs m e hj => by simp [tnss] at hj⟩
  | [], _ :: _, env, _, h => by simp [bindNs] at h
  | _ :: _, [], env, _, h => by simp [bindNs] at h
  | t :: ts, x :: xs, env, env', h => by
    simp only [bindNs] at h
    obtain ⟨e1, h1, h2⟩ := bs h
    obtain ⟨a1, a2⟩ := bindN_out t h1
    obtain ⟨b1, b2⟩ := bindNs_out ts h2
    refine ⟨fun j hj => ?_, fun j ys m e hj => ?_⟩
    · simp only [tnss, List.mem_append, not_or] at hj
      rw [b1 j hj.2, a1 j hj.1]
    · simp only [tnss, List.mem_append] at hj
      have nb := b2 j ys m e
      rw [b1 j nb] at e
      exact hj.elim (a2 j ys m e) nb
end
theorem wipe_get {σ : L2.St} : ∀ {vs : List Nat} {j : Nat}, j ∉ vs → (wipe σ vs)[j]? = σ[j]?
  | [], _, _ => rfl
  | v :: vs, j, h => by
    simp only [List.mem_cons, not_or] at h
    rw [wipe, List.getElem?_set_ne (Ne.symm h.1)]
    exact wipe_get h.2
theorem wipe_in {σ : L2.St} : ∀ {vs : List Nat} {j : Nat}, j ∈ vs → j < σ.length → (wipe σ vs)[j]? = some none
  | v :: vs, j, h, hl => by
    rw [wipe]
    by_cases e : v = j
    · subst e
      rw [List.getElem?_set_self (by rw [wipe_length]; exact hl)]
    · rw [List.getElem?_set_ne e]
      exact wipe_in (by
        rcases List.mem_cons.mp h with z | z
        · exact absurd z.symm e
        · exact z) hl
theorem wipeE_in {env : En} : ∀ {vs : List Nat} {j : Nat}, j ∈ vs → j < env.length → (wipeE env vs)[j]? = some .un
  | v :: vs, j, h, hl => by
    rw [wipeE]
    by_cases e : v = j
    · subst e
      rw [List.getElem?_set_self (by rw [wipeE_len]; exact hl)]
    · rw [List.getElem?_set_ne e]
      exact wipeE_in (by
        rcases List.mem_cons.mp h with z | z
        · exact absurd z.symm e
        · exact z) hl
theorem wipe_sr (s : SR K F H σ (backE lk env own)) (hlk : lk.length = env.length) : SR K F H (wipe σ own) (wipeE env own) := by
  have get : ∀ {j : Nat} {sl : Sl}, (wipeE env own)[j]? = some sl → sl ≠ .un → j ∉ own ∧ (backE lk env own)[j]? = some sl ∧ (wipe σ own)[j]? = σ[j]? := fun {j sl} e hn => by
    by_cases hj : j ∈ own
    · have hl : j < env.length := by
        have := (List.getElem?_eq_some_iff.mp e).1
        rw [wipeE_len] at this; exact this
      rw [wipeE_in hj hl] at e
      cases e; exact absurd rfl hn
    · rw [wipeE_ne hj] at e
      exact ⟨hj, by rw [backE_ne hj]; exact e, wipe_get hj⟩
  refine ⟨s.fh, ?_, fun j x e => ?_, fun j xs m e => ?_, fun i j xs m ys n p e1 e2 e3 e4 => ?_⟩
  · rw [wipe_length, wipeE_len, s.len, backE_len]
  · obtain ⟨h1, h2, h3⟩ := get e (fun z => by cases z)
    rw [h3]; exact s.dd j x h2
  · obtain ⟨h1, h2, h3⟩ := get e (fun z => by cases z)
    rw [h3]; exact s.ow j xs m h2
  · obtain ⟨_, g1, g2⟩ := get e1 (fun z => by cases z)
    obtain ⟨_, g3, g4⟩ := get e2 (fun z => by cases z)
    rw [g2] at e3; rw [g4] at e4
    exact s.inj i j xs m ys n p g1 g3 e3 e4
theorem wipe_eq {σ σ2 : L2.St} (hl : σ2.length = σ.length) (h : ∀ j : Nat, j ∉ own → σ2[j]? = σ[j]?) : wipe σ2 own = wipe σ own := by
  apply List.ext_getElem?
  intro j
  by_cases hj : j ∈ own
  · by_cases hlt : j < σ.length
    · rw [wipe_in hj hlt, wipe_in hj (hl ▸ hlt)]
    · rw [List.getElem?_eq_none (by rw [wipe_length]; omega), List.getElem?_eq_none (by rw [wipe_length]; omega)]
  · rw [wipe_get hj, wipe_get hj, h j hj]
end
end Ev

/-! Ev, part K2: list comprehensions, the turns. -/
namespace Ev
open PySem PySem.Spec PyProof.Rows L2
/-- a comprehension's turn -/
def stepC (C : Sem0) (elt : E) (tg : Tn) (cond : List E) (own : List Nat) : D → En → Option (Option D × En) := fun x en => (bindN tg x (wipeE en own)).bind fun en => (evCond C cond en).bind fun c => if c.1 = true then (evA C elt c.2).bind fun q => (frz q.1 q.2).bind fun r => some (some r.1, r.2) else some (none, c.2)
section
variable {K : PySem.W.Frag} {C : Sem0} {X : Cx} {own : List Nat}
theorem lc_of (hC : CLk C) {ielt : E} {itg : Tn} {k : Wk} {irs icond : List E} (hown : ∀ j ∈ tns itg, j ∈ own) {σ : L2.St} {H : Hp} {Q : VK} (h : tE K C (.comp ielt itg k irs icond own) σ H Q) :
    tLc (tI K C k irs) (gD K itg) (tCd K C icond) (tE K C ielt) own σ H Q := by
  obtain ⟨F, env, ag, env', s, e, q⟩ := h
  simp only [evA] at e
  obtain ⟨p, e1, e⟩ := bs e
  obtain ⟨ds, e2, e⟩ := bs e
  obtain ⟨its, e3, e⟩ := bs e
  split at e
  · rename_i hl
    obtain ⟨w, e4, e⟩ := bs e
    cases e
    have e4 : compL (stepC C ielt itg icond own) its (lockA p.1 p.2) = some w := e4
    refine ⟨F, env, p.1, p.2, ds, its, s, e1, e2, e3, fun F1 H1 vs J S1 r1 wk D0 hD => ?_⟩
    obtain ⟨lok, low⟩ := lockA_ok p.1 S1.sr
    have SL : Se K σ F H env F1 H1 (lockA p.1 p.2) := S1.same lok low
    let lk := lockA p.1 p.2
    -- the invariant
    let Inv' : Nat → Hp → Prop := fun i Hc => ∃ Fc envc acc accD rest, i ≤ its.length ∧ compL (stepC C ielt itg icond own) (its.drop i) envc = some (rest, w.2) ∧ accD ++ rest = w.1 ∧ Hc D0 = some (.lst acc) ∧ Fc D0 = none ∧ Dvs K Fc acc accD ∧ acc.length ≤ i ∧
      Se K σ F1 H1 lk Fc Hc (backE lk envc own) ∧ envc.length = lk.length ∧ LkX own lk envc
    have bk0 : backE lk lk own = lk := by
      apply List.ext_getElem?
      intro j
      by_cases hj : j ∈ own
      · rw [backE_in rfl hj]
      · rw [backE_ne hj]
    refine ⟨fun i m Hc => m = its.length - i ∧ Inv' i Hc, ⟨its.length, rfl, F1, lk, [], [], w.1, Nat.zero_le _, e4, rfl, upd_same, fnone lok.fh hD, .nil, Nat.le_refl _, ?_, rfl, fun i xs m _ z => ⟨xs, z, fun _ => rfl⟩⟩, ?_⟩
    · rw [bk0]
      exact Se.acc lok (Se.refl lok) hD (fnone lok.fh hD)
    rintro i m Hc ⟨rfl, Fc, envc, acc, accD, rest, hi, hcomp, hrest, hDc, hFc, hacc, hal, S, hlen, hlkx⟩
    have al : Rvs K Fc Hc vs ds := alive S1.sr r1 e2 S.ss (Kp.refl _ _) (backE_lkX hlen hlkx)
    by_cases hlt : i < its.length
    · refine .inr ⟨wk.go Fc Hc i S.sr.fh al hlt, Inv' (i + 1), fun H' n' => ⟨its.length - (i + 1), by omega, rfl, n'⟩, fun x H' y => ?_⟩
      obtain ⟨d, F', hd, nw, dv⟩ := wk.yl Fc Hc i x H' S.sr.fh al hlt y
      have hdrop : its.drop i = d :: its.drop (i + 1) := by
        rw [List.drop_eq_getElem_cons hlt]
        rw [List.getElem?_eq_getElem hlt] at hd
        cases hd; rfl
      rw [hdrop] at hcomp
      simp only [compL] at hcomp
      obtain ⟨a, st, hcomp⟩ := bs hcomp
      obtain ⟨b, cr, hcomp⟩ := bs hcomp
      have st' := st
      simp only [stepC] at st
      obtain ⟨en1, b1, st⟩ := bs st
      obtain ⟨c, b2, st⟩ := bs st
      have S' : Se K σ F1 H1 lk F' H' (backE lk envc own) := S.trans (Se.nw S.sr nw)
      have hlk : lk.length = envc.length := hlen.symm
      have wsr : SR K F' H' (wipe σ own) (wipeE envc own) := wipe_sr S'.sr hlk
      have ll1 := bindN_out itg b1
      have lkx' : LkX own lk a.2 := fun j xs m n z => by
        obtain ⟨ys, z1, z2⟩ := hlkx j xs m n z
        obtain ⟨zs, z3, z4⟩ := comp_lkX hC (fun g => (evA_ll hC _ g).1) (fun g => (evCond_ll hC _ g).1) st' j ys m n z1
        exact ⟨zs, z3, fun h => by rw [z4 h, z2 h]⟩
      have hDn : Hc D0 ≠ none := by rw [hDc]; exact fun z => by cases z
      have hD' : H' D0 = some (.lst acc) := nw.h _ _ hDc
      have hFD' : F' D0 = none := nw.nf D0 hDn hFc
      refine ⟨F', H', wipe σ own, wipeE envc own, F', wipeE envc own, d, en1, Ss.refl wsr, dv, b1, fun σ2 S2 G2 o2 => ⟨?_, ?_⟩⟩
      · have z1 : σ2.length = σ.length := by
          rw [S2.sr.len, bindN_len itg b1, wipeE_len, hlen]
          exact (SL.sr.len).symm
        exact wipe_eq z1 fun j hj => by rw [o2 j (fun z => hj (hown j z)), wipe_get hj]
      · have he1 : ∀ j : Nat, j ∉ own → en1[j]? = envc[j]? := fun j hj => by rw [ll1.1 j (fun z => hj (hown j z)), wipeE_ne hj]
        have hn1 : ∀ (j : Nat) (xs : List D) (m : Nat), en1[j]? = some (.own xs m) → j ∉ own := fun j xs m z hj => by
          have n1 := ll1.2 j xs m z
          rw [ll1.1 j n1] at z
          have hl : j < envc.length := by
            have := (List.getElem?_eq_some_iff.mp z).1
            rw [wipeE_len] at this; exact this
          rw [wipeE_in hj hl] at z
          cases z
        have hσ2 : ∀ j : Nat, j ∉ own → σ2[j]? = σ[j]? := fun j hj => by rw [o2 j (fun z => hj (hown j z)), wipe_get hj]
        -- D0 is nobody's inside
        have noD : ¬ Ow σ2 en1 D0 := fun ⟨j, xs, m, z1, z2⟩ => by
          have hj := hn1 j xs m z1
          have z3 : Ow σ (backE lk envc own) D0 := ⟨j, xs, m, by rw [backE_ne hj, ← he1 j hj]; exact z1, by rw [← hσ2 j hj]; exact z2⟩
          obtain ⟨⟨_, z4⟩, _⟩ := lok.owH (S.ow D0 z3)
          rw [hD] at z4; cases z4
        have len1 : en1.length = envc.length := (bindN_len itg b1).trans wipeE_len
        refine ⟨F', en1, c.1, c.2, S2.sr, b2, fun F3 H3 S3 => ?_⟩
        have l3 := (evCond_ll hC icond b2).2
        cases hc : c.1 with
        | false =>
          show Inv' (i + 1) H3
          rw [hc, if_neg Bool.false_ne_true] at st
          cases st
          obtain ⟨h5, hw⟩ := Prod.mk.inj (Option.some.inj (show some (b.1, b.2) = some (rest, w.2) from hcomp))
          subst h5
          refine ⟨F3, c.2, acc, accD, _, hlt, (by rw [cr, ← hw]), hrest, S3.keep _ _ hD' noD, S3.newf _ (by rw [hD']; exact fun z => by cases z) hFD' noD, (hacc.ex nw.f).ex S3.fe, by omega, ?_, ?_, lkx'⟩
          · exact blk_back S nw he1 hn1 hσ2 S3 (l3.trans len1) hlk
          · exact (l3.trans len1).trans hlen
        | true =>
          show tE K C ielt σ2 H3 fun y H4 => ∃ acc, H4 D0 = some (HO.lst acc) ∧ acc.length < sizeLine ∧ Inv' (i + 1) (upd H4 D0 (HO.lst (acc ++ [y])))
          rw [hc, if_pos rfl] at st
          obtain ⟨r, b3, st⟩ := bs st
          obtain ⟨r', b4, st⟩ := bs st
          cases st
          obtain ⟨h5, hw⟩ := Prod.mk.inj (Option.some.inj (show some (r'.1 :: b.1, b.2) = some (rest, w.2) from hcomp))
          subst h5
          have l4 := (evA_ll hC ielt b3).2
          refine ⟨F3, c.2, r.1, r.2, S3.sr, b3, fun F4 H4 v S4 r4 => ?_⟩
          obtain ⟨F5, S5, dv5, x5, f5, o5⟩ := frz_ok (S3.trans S4) (r4.back S3.dom) b4
          have k4 : H4 D0 = some (.lst acc) := (S3.trans S4).keep _ _ hD' noD
          have k5 : F5 D0 = none := S5.newf _ (by rw [hD']; exact fun z => by cases z) hFD' noD
          have B := blk_back S nw he1 hn1 hσ2 S5 ((frz_len b4).trans (l4.trans (l3.trans len1))) hlk
          refine ⟨acc, k4, by rw [line_eq]; omega, F5, r'.2, acc ++ [v], accD ++ [r'.1], _, hlt, (by rw [cr, ← hw]), ?_, upd_same, k5, ?_, by rw [List.length_append, List.length_singleton]; omega, Se.acc lok B hD k5, ?_, lkx'⟩
          · rw [List.append_assoc]; exact hrest
          · exact (((hacc.ex nw.f).ex S5.fe).app (.cons dv5 .nil))
          · exact ((frz_len b4).trans (l4.trans (l3.trans len1))).trans hlen
    · have hi' : i = its.length := by omega
      subst hi'
      refine .inl ⟨wk.st Fc Hc _ S.sr.fh al rfl, ?_⟩
      rw [List.drop_length] at hcomp
      simp only [compL] at hcomp
      cases hcomp
      rw [List.append_nil] at hrest
      subst hrest
      have ST := SL.trans S
      obtain ⟨uok, uow⟩ := unlockA_ok p.1 ST.sr
      have SU : Se K σ F H env Fc Hc (unlockA p.1 (backE lk w.2 own)) := ST.same uok uow
      refine q Fc Hc _ SU ⟨D0, acc, rfl, hDc, hFc, hacc, ?_, fun z => ?_⟩
      · cases z : H D0 with
        | none => rfl
        | some o => exact absurd hD (S1.dom D0 (by rw [z]; exact fun z => by cases z))
      · have := S.ow D0 ((uow D0).mp z)
        obtain ⟨⟨_, z4⟩, _⟩ := lok.owH this
        rw [hD] at z4; cases z4
  · cases e
theorem e_comp (hC : CLk C) {elt tg iter : Expr} {ifs : List Expr} {scope : Scope} {ownP : List (Str × Nat)} {pos : Pos} {k : Wk} {irs icond : List E} {ielt : E} {itg : Tn} (hc : X.calm = true) (hN : X.N.Nodup) (hi : PI X tg iter (tI X.K C k irs)) (ok : BlkOk X.N X.env.scope scope ownP)
    (hg : ∀ (s : Shared) (H : Hp) (C' : Addr) (cl : List (Str × Addr)) (fp : List Addr), PG (X.blk s H scope (compEnvC scope cl C' X.env) fp) tg (gD X.K itg)) (ht : ∀ (s : Shared) (H : Hp) (C' : Addr) (cl : List (Str × Addr)) (fp : List Addr), PTs (X.blk s H scope (compEnvC scope cl C' X.env) fp) ifs (tCd X.K C icond))
    (he : ∀ (s : Shared) (H : Hp) (C' : Addr) (cl : List (Str × Addr)) (fp : List Addr), PE (X.blk s H scope (compEnvC scope cl C' X.env) fp) elt (tE X.K C ielt)) (hs : ∀ x, foldedSetIterable iter X.env x = pure x) (hown : ∀ j ∈ tns itg, j ∈ ownP.map (·.2)) :
    PE X (.ListComp elt [⟨tg, iter, ifs, 0⟩] scope pos) (tE X.K C (.comp ielt itg k irs icond (ownP.map (·.2)))) :=
  PE.imp (pe_lc hc hN hi ok hg ht he hs) fun _ _ _ h => lc_of hC hown h
end
end Ev

/-! Ev, part S: statements. -/
namespace Ev
open PySem PySem.Spec PyProof.Rows L2
/-- own lists at first hand -/
def Ow0 (σ : L2.St) (env : En) (a : Addr) : Prop := ∃ (i : Nat) (xs : List D), env[i]? = some (.own xs 0) ∧ σ[i]? = some (some (.ref a))
/-- a value that is returned -/
structure RR (K : PySem.W.Frag) (H : Hp) (σ : L2.St) (env : En) (F' H' : Hp) (v : V) (t : T) : Prop where
  d : ∀ x, t = .d x → Dv K F' v x
  f : ∀ xs, t = .fr xs → ∃ p ws, v = .ref p ∧ H' p = some (.lst ws) ∧ F' p = none ∧ Dvs K F' ws xs ∧ (H p = none ∨ Ow0 σ env p)
def PostS (K : PySem.W.Frag) (F H : Hp) (σ : L2.St) (env : En) (D : Ends) : Fl → Prop
  | .nx env' => ∀ F' H' σ', Ss K F H σ env F' H' σ' env' → Kp env σ σ' → D.nx σ' H'
  | .ct env' => ∀ F' H' σ', Ss K F H σ env F' H' σ' env' → Kp env σ σ' → D.ct σ' H'
  | .bk env' => ∀ F' H' σ', Ss K F H σ env F' H' σ' env' → Kp env σ σ' → D.bk σ' H'
  | .rt t env' => ∀ F' H' σ' v, Ss K F H σ env F' H' σ' env' → Kp env σ σ' → RR K H σ env F' H' v t → D.rt v H'
def tS (K : PySem.W.Frag) (C : Sem0) (fuel : Nat) (s : S) : TS := fun D σ H => ∃ F env fl, SR K F H σ env ∧ exS C fuel s env = some fl ∧ PostS K F H σ env D fl
def tSs (K : PySem.W.Frag) (C : Sem0) (fuel : Nat) (ss : List S) : TS := fun D σ H => ∃ F env fl, SR K F H σ env ∧ exB C fuel ss env = some fl ∧ PostS K F H σ env D fl
section
variable {K : PySem.W.Frag} {C : Sem0} {X : Cx} {F F' H H' F0 H0 F1 H1 : Hp} {σ σ' σ0 σ1 : L2.St} {env env' env0 env1 : En} {fuel : Nat}
theorem ow0_back (S : Ss K F H σ env F1 H1 σ1 env1) (kp : Kp env σ σ1) (l : Lk env env1) {p : Addr} (h : Ow0 σ1 env1 p) : H p = none ∨ Ow0 σ env p := by
  obtain ⟨i, xs, h1, h2⟩ := h
  rcases S.ow p ⟨i, xs, 0, h1, h2⟩ with ⟨j, ys, m, g1, g2⟩ | z
  · cases m with
    | zero => exact .inr ⟨j, ys, g1, g2⟩
    | succ m =>
      obtain ⟨zs, g3, _⟩ := l j ys m g1
      have g4 := kp j ys m g1
      rw [g2] at g4
      have := S.sr.inj i j _ _ _ _ p h1 g3 h2 g4
      subst this
      rw [h1] at g3; cases g3
  · exact .inl z
theorem RR.back (S : Ss K F H σ env F1 H1 σ1 env1) (kp : Kp env σ σ1) (l : Lk env env1) {v : V} {t : T} (h : RR K H1 σ1 env1 F' H' v t) : RR K H σ env F' H' v t := by
  refine ⟨h.d, fun xs e => ?_⟩
  obtain ⟨p, ws, h1, h2, h3, h4, h5⟩ := h.f xs e
  refine ⟨p, ws, h1, h2, h3, h4, ?_⟩
  rcases h5 with h5 | h5
  · refine .inl ?_
    cases q : H p with
    | none => rfl
    | some o => exact absurd h5 (S.dom p (by rw [q]; exact fun z => by cases z))
  · exact ow0_back S kp l h5
theorem PostS.back (S : Ss K F H σ env F1 H1 σ1 env1) (kp : Kp env σ σ1) (l : Lk env env1) {D : Ends} {fl : Fl} (h : PostS K F H σ env D fl) : PostS K F1 H1 σ1 env1 D fl := by
  cases fl with
  | nx e => exact fun F' H' σ' S1 k1 => h F' H' σ' (S.trans S1) (kp.trans l k1)
  | ct e => exact fun F' H' σ' S1 k1 => h F' H' σ' (S.trans S1) (kp.trans l k1)
  | bk e => exact fun F' H' σ' S1 k1 => h F' H' σ' (S.trans S1) (kp.trans l k1)
  | rt t e => exact fun F' H' σ' v S1 k1 r => h F' H' σ' v (S.trans S1) (kp.trans l k1) (r.back S kp l)
theorem PS.imp' {e : Stmt} {t t' : TS} (h : PS X e t) (f : ∀ D σ H, t' D σ H → t D σ H) : PS X e t' := ⟨fun pins s σ H D I q => h.run pins s σ H D I (f D σ H q)⟩
theorem PSs.imp' {e : List Stmt} {t t' : TS} (h : PSs X e t) (f : ∀ D σ H, t' D σ H → t D σ H) : PSs X e t' := ⟨fun pins s σ H D I q => h.run pins s σ H D I (f D σ H q)⟩
/-! ### blocks -/
theorem s_nil : PSs X [] (tSs X.K C fuel []) := PSs.imp' pss_nil fun D σ H ⟨F, env, fl, s, e, q⟩ => by
  simp only [exB] at e
  cases e
  exact q F H σ (Ss.refl s) (Kp.refl _ _)
theorem s_cons (hC : CLk C) {st : Stmt} {rest : List Stmt} {ir : S} {irs : List S} (h1 : PS X st (tS X.K C fuel ir)) (h2 : PSs X rest (tSs X.K C fuel irs)) : PSs X (st :: rest) (tSs X.K C fuel (ir :: irs)) := by
  refine PSs.imp' (pss_cons h1 h2) fun D σ H ⟨F, env, fl, s, e, q⟩ => ?_
  simp only [exB] at e
  obtain ⟨g, e1, e⟩ := bs e
  refine ⟨F, env, g, s, e1, ?_⟩
  cases g with
  | nx env1 => exact fun F' H' σ' S k => ⟨F', env1, fl, S.sr, e, q.back S k (exS_ll hC fuel ir e1).1⟩
  | rt t env1 => cases e; exact q
  | bk env1 => cases e; exact q
  | ct env1 => cases e; exact q
/-! ### small statements -/
variable {e : Expr} {ie : E} {pos : Pos}
theorem s_expr (hC : CLk C) (he : PE X e (tE X.K C ie)) (hs : swapsWith e none pos.line X.env = pure false) : PS X (.Expr e pos) (tS X.K C fuel (.expr ie)) := by
  refine PS.imp' (ps_expr he hs) fun D σ H ⟨F, env, fl, s, e, q⟩ => ?_
  simp only [exS] at e
  obtain ⟨p, e1, e⟩ := bs e
  cases e
  exact ⟨F, env, p.1, p.2, s, e1, fun F' H' v S r => q F' H' σ S.ss (Kp.refl _ _)⟩
theorem s_doc {x : Str} {j : Nat} {pos' : Pos} : PS X (.Expr (.Constant (.str x) j pos) pos') (tS X.K C fuel .pass) := PS.imp' ps_doc fun D σ H ⟨F, env, fl, s, e, q⟩ => by
  simp only [exS] at e
  cases e
  exact q F H σ (Ss.refl s) (Kp.refl _ _)
theorem s_pass : PS X (.Pass pos) (tS X.K C fuel .pass) := PS.imp' ps_pass fun D σ H ⟨F, env, fl, s, e, q⟩ => by
  simp only [exS] at e
  cases e
  exact q F H σ (Ss.refl s) (Kp.refl _ _)
theorem s_brk : PS X (.Break pos) (tS X.K C fuel .brk) := PS.imp' ps_break fun D σ H ⟨F, env, fl, s, e, q⟩ => by
  simp only [exS] at e
  cases e
  exact q F H σ (Ss.refl s) (Kp.refl _ _)
theorem s_cont : PS X (.Continue pos) (tS X.K C fuel .cont) := PS.imp' ps_continue fun D σ H ⟨F, env, fl, s, e, q⟩ => by
  simp only [exS] at e
  cases e
  exact q F H σ (Ss.refl s) (Kp.refl _ _)
theorem s_never {st : Stmt} : PS X st (tS X.K C fuel .never) := PS.imp' ps_never fun D σ H ⟨F, env, fl, s, e, q⟩ => by
  simp only [exS] at e
  cases e
theorem s_retN : PS X (.Return none pos) (tS X.K C fuel .retN) := PS.imp' ps_retN fun D σ H ⟨F, env, fl, s, e, q⟩ => by
  simp only [exS] at e
  cases e
  exact q F H σ .non (Ss.refl s) (Kp.refl _ _) ⟨fun x h => by cases h; exact .non, fun xs h => by cases h⟩
theorem s_ret (hC : CLk C) (he : PE X e (tE X.K C ie)) : PS X (.Return (some e) pos) (tS X.K C fuel (.ret ie)) := by
  refine PS.imp' (ps_ret he) fun D σ H ⟨F, env, fl, s, e, q⟩ => ?_
  simp only [exS] at e
  obtain ⟨p, e1, e⟩ := bs e
  obtain ⟨t, e2, e⟩ := bs e
  cases e
  refine ⟨F, env, p.1, p.2, s, e1, fun F' H' v S r => q F' H' σ v S.ss (Kp.refl _ _) ?_⟩
  match hp : p.1, r, e2 with
  | .v (.d x), r, e2 => cases e2; exact ⟨fun y h => (by cases h; exact r), fun xs h => (by cases h)⟩
  | .v (.fr xs), ⟨p', ws, h1, h2, h3, h4, h5, _⟩, e2 => cases e2; exact ⟨fun y h => (by cases h), fun ys h => (by cases h; exact ⟨p', ws, h1, h2, h3, h4, .inl h5⟩)⟩
  | .r i, r, e2 =>
    have r' : σ[i]? = some (some v) := r
    simp only [retT] at e2
    split at e2
    · rename_i xs z
      cases e2
      obtain ⟨p', ws, h1, h2, h3, h4⟩ := S.sr.ow i _ _ z
      rw [r'] at h1
      have : v = .ref p' := by cases h1; rfl
      subst this
      exact ⟨fun y h => (by cases h), fun ys h => (by cases h; exact ⟨p', ws, rfl, h2, h3, h4, ow0_back S.ss (Kp.refl _ _) (evA_ll hC ie e1).1 ⟨i, _, z, r'⟩⟩)⟩
    · rename_i x z
      cases e2
      obtain ⟨w, h1, h2⟩ := S.sr.dd i _ z
      rw [r'] at h1
      cases h1
      exact ⟨fun y h => (by cases h; exact h2), fun xs h => (by cases h)⟩
    · cases e2
theorem s_if (hC : CLk C) {c : Expr} {ic : E} {a b : List Stmt} {ia ib : List S} (hc : PT X c (tT X.K C ic)) (ha : PSs X a (tSs X.K C fuel ia)) (hb : PSs X b (tSs X.K C fuel ib)) : PS X (.If c a b pos) (tS X.K C fuel (.ifs ic ia ib)) := by
  refine PS.imp' (ps_if hc ha hb) fun D σ H ⟨F, env, fl, s, e, q⟩ => ?_
  simp only [exS] at e
  obtain ⟨p, e1, e⟩ := bs e
  obtain ⟨k, e2, e⟩ := bs e
  refine ⟨F, env, p.1, p.2, k, s, e1, e2, fun F1 H1 S1 => ?_⟩
  have l := (evA_ll hC ic e1).1
  cases k with
  | true =>
    rw [if_pos rfl] at e
    exact ⟨F1, p.2, fl, S1.sr, e, q.back S1.ss (Kp.refl _ _) l⟩
  | false =>
    rw [if_neg Bool.false_ne_true] at e
    exact ⟨F1, p.2, fl, S1.sr, e, q.back S1.ss (Kp.refl _ _) l⟩
open Classical in
/-- own lists as data for a while -/
noncomputable def frzF (F H : Hp) (σ : L2.St) (env : En) : Hp := fun a => if Ow σ env a then H a else F a
theorem frzF_ex {F H : Hp} (σ : L2.St) (env : En) (e : Ex F H) : Ex F (frzF F H σ env) := fun a o h => by
  unfold frzF
  split
  · exact e a o h
  · exact h
/-- a test on own lists that keeps none of them leaves them as they were -/
theorem SR.frz {F H : Hp} {σ : L2.St} {env : En} (s : SR K F H σ env) : SR K (frzF F H σ env) H σ (frzE env) := by
  have ex := frzF_ex σ env s.fh
  have no : ∀ (i : Nat) (xs : List D) (m : Nat), (frzE env)[i]? = some (.own xs m) → False := fun i xs m h => by
    unfold frzE at h
    rw [List.getElem?_map] at h
    cases q : env[i]? with
    | none => rw [q] at h; cases h
    | some sl => rw [q] at h; cases sl <;> cases h
  refine ⟨fun a o h => ?_, by rw [s.len]; exact (List.length_map _).symm, fun i x h => ?_, fun i xs m h => (no i xs m h).elim, fun i j xs m ys n p h => (no i xs m h).elim⟩
  · unfold frzF at h
    split at h
    · exact h
    · exact s.fh a o h
  · unfold frzE at h
    rw [List.getElem?_map] at h
    cases q : env[i]? with
    | none => rw [q] at h; cases h
    | some sl =>
      rw [q] at h
      cases sl with
      | un => cases h
      | d y =>
        cases h
        obtain ⟨v, h1, h2⟩ := s.dd i _ q
        exact ⟨v, h1, h2.ex ex⟩
      | own xs m =>
        cases h
        obtain ⟨p, vs, h1, h2, h3, h4⟩ := s.ow i _ _ q
        refine ⟨.ref p, h1, .lst (xs := vs) ?_ (h4.ex ex)⟩
        unfold frzF
        rw [if_pos ⟨i, xs, m, q, h1⟩]
        exact h2
theorem Se.lend {F H F1 F' H' : Hp} {σ : L2.St} {env env' : En} (s : SR K F H σ env) (e : Ex F F1) (S : Se K σ F1 H (frzE env) F' H' env') : Se K σ F H env F H' env := by
  have no : ∀ a, ¬ Ow σ (frzE env) a := fun a ⟨i, xs, m, h, _⟩ => by
    unfold frzE at h
    rw [List.getElem?_map] at h
    cases q : env[i]? with
    | none => rw [q] at h; cases h
    | some sl => rw [q] at h; cases sl <;> cases h
  have kp : Ex H H' := fun a o h => S.keep a o h (no a)
  refine ⟨⟨s.fh.trans kp, s.len, s.dd, fun i xs m h => ?_, s.inj⟩, Ex.refl _, fun a o h _ => kp a o h, fun a _ h _ => h, fun _ h => h, S.dom⟩
  obtain ⟨p, vs, h1, h2, h3, h4⟩ := s.ow i xs m h
  exact ⟨p, vs, h1, kp _ _ h2, h3, h4⟩
theorem s_ifl (hC : CLk C) {c : Expr} {ic : E} {a b : List Stmt} {ia ib : List S} (hc : PT X c (tT X.K C ic)) (ha : PSs X a (tSs X.K C fuel ia)) (hb : PSs X b (tSs X.K C fuel ib)) : PS X (.If c a b pos) (tS X.K C fuel (.ifl ic ia ib)) := by
  refine PS.imp' (ps_if hc ha hb) fun D σ H ⟨F, env, fl, s, e, q⟩ => ?_
  simp only [exS] at e
  obtain ⟨p, e1, e⟩ := bs e
  obtain ⟨k, e2, e⟩ := bs e
  refine ⟨_, frzE env, p.1, p.2, k, s.frz, e1, e2, fun F1 H1 S1 => ?_⟩
  have S2 := Se.lend s (frzF_ex σ env s.fh) S1
  cases k with
  | true =>
    rw [if_pos rfl] at e
    exact ⟨F, env, fl, S2.sr, e, q.back S2.ss (Kp.refl _ _) (Lk.refl _)⟩
  | false =>
    rw [if_neg Bool.false_ne_true] at e
    exact ⟨F, env, fl, S2.sr, e, q.back S2.ss (Kp.refl _ _) (Lk.refl _)⟩
/-! ### stores -/
/-- a name's store, by its value's reading -/
theorem asg_of (hC : CLk C) {i : Nat} {D : Ends} (h : tS X.K C fuel (.asg (.nm i) ie) D σ H) : tE X.K C ie σ H fun v H1 => D.nx (σ.set i (some v)) H1 := by
  obtain ⟨F, env, fl, s, e, q⟩ := h
  simp only [exS] at e
  obtain ⟨p, e1, e⟩ := bs e
  obtain ⟨r, e2, e⟩ := bs e
  obtain ⟨env2, e3, rfl⟩ := mapnx e
  refine ⟨F, env, p.1, p.2, s, e1, fun F1 H1 v S1 r1 => ?_⟩
  obtain ⟨F2, S2, r2, _⟩ := keepA_ok S1 r1 e2
  exact q F2 H1 _ (putN_ok S2.ss r2 e3) ((Kp.refl env σ).trans ((evA_ll hC ie e1).1.trans (keepA_lk e2)) (putN_gp r2 e3).kp)
theorem s_set (hC : CLk C) {i : Nat} {x : Str} {pos' : Pos} (hN : X.N.Nodup) (hi : X.N[i]? = some x) (hx : Loc X.env.scope x) (he : PE X e (tE X.K C ie)) (hs : swapsWith e (some (.Name x pos')) pos.line X.env = pure false) (hf : X.fn x = true ∨ X.env.scope.names.lookup x = some .local) :
    PS X (.Assign [.Name x pos'] e pos) (tS X.K C fuel (.asg (.nm i) ie)) := PS.imp' (ps_set hN hi hx he hs hf) fun D σ H h => asg_of hC h
theorem s_asgT (hC : CLk C) {tg : Expr} {ts : List Tn} (he : PE X e (tE X.K C ie)) (hg : PG X tg (gD X.K (.tp ts))) (hs : swapsWithSole [tg] e pos.line X.env = pure false) (hw : swappedStores [tg] e X.env = pure none) (hst : ∀ y z, tg ≠ .Starred y z) :
    PS X (.Assign [tg] e pos) (tS X.K C fuel (.asg (.tp ts) ie)) := by
  refine PS.imp' (ps_asg he hg hs hw (each_of hst _)) fun D σ H ⟨F, env, fl, s, e, q⟩ => ?_
  simp only [exS] at e
  obtain ⟨p, e1, e⟩ := bs e
  obtain ⟨r, e2, e⟩ := bs e
  obtain ⟨env2, e3, rfl⟩ := mapnx e
  refine ⟨F, env, p.1, p.2, s, e1, fun F1 H1 v S1 r1 => ?_⟩
  obtain ⟨F2, S2, d2, _⟩ := frz_ok S1 r1 e2
  exact ⟨F, H, σ, env, F2, r.2, r.1, env2, S2.ss, d2, e3, fun σ' S3 G3 _ => q F2 H1 σ' S3 ((Kp.refl env σ).trans ((evA_ll hC ie e1).1.trans (frz_lk e2)) G3.kp)⟩
theorem s_sub (hC : CLk C) {tg : Expr} {i : Nat} {k : E} (he : PE X e (tE X.K C ie)) (hg : PG X tg (gT X.K C (.sb i k))) (hs : swapsWithSole [tg] e pos.line X.env = pure false) (hw : swappedStores [tg] e X.env = pure none) (hst : ∀ y z, tg ≠ .Starred y z) :
    PS X (.Assign [tg] e pos) (tS X.K C fuel (.set i k ie)) := by
  refine PS.imp' (ps_asg he hg hs hw (each_of hst _)) fun D σ H ⟨F, env, fl, s, e, q⟩ => ?_
  simp only [exS] at e
  obtain ⟨p, e1, e⟩ := bs e
  obtain ⟨r, e2, e⟩ := bs e
  obtain ⟨env2, e3, rfl⟩ := mapnx e
  refine ⟨F, env, p.1, p.2, s, e1, fun F1 H1 v S1 r1 => ?_⟩
  obtain ⟨F2, S2, d2, _⟩ := frz_ok S1 r1 e2
  exact ⟨F, H, σ, env, F2, r.2, .d r.1, env2, S2.ss, d2, e3, fun F3 H3 σ' S3 G3 _ => q F3 H3 σ' S3 ((Kp.refl env σ).trans ((evA_ll hC ie e1).1.trans (frz_lk e2)) G3.kp)⟩
theorem RAs.ofD : ∀ {vs : List V} {ds : List D}, Dvs K F vs ds → RAs K σ F H env H0 vs ((ds.map T.d).map .v)
  | _, _, .nil => .nil
  | _, _, .cons (v := v) a b => .cons a (RAs.ofD b) fun p hp => by cases v <;> simp [frA] at hp
theorem s_unp (hC : CLk C) {es : List Expr} {gs : List Tg} {k : Nat} {tpos : Pos} (hc : X.calm = true) (he : PE X e (tE X.K C ie)) (hg : PGs X es (gTs X.K C gs)) (hst : ∀ e ∈ es, ∀ y z, e ≠ .Starred y z) (hl : es.length = gs.length) (hs : swapsWithSole [.Tuple es k tpos] e pos.line X.env = pure false)
    (hw : swappedStores [.Tuple es k tpos] e X.env = pure none) : PS X (.Assign [.Tuple es k tpos] e pos) (tS X.K C fuel (.unp gs ie)) := by
  refine PS.imp' (ps_asg he (pg_tup (n := gs.length) hc hg ((find_of hst _).1.trans hl) (find_of hst _).2) hs hw (each_of (fun y z h => by cases h) _)) fun D σ H ⟨F, env, fl, s, e, q⟩ => ?_
  simp only [exS] at e
  obtain ⟨p, e1, e⟩ := bs e
  obtain ⟨r, e2, e⟩ := bs e
  split at e
  · rename_i ds hds
    obtain ⟨env2, e3, rfl⟩ := mapnx e
    refine ⟨F, env, p.1, p.2, s, e1, fun F1 H1 v S1 r1 => ?_⟩
    obtain ⟨F2, S2, d2, _⟩ := frz_ok S1 r1 e2
    rw [hds] at d2
    cases d2 with
    | @tup a xs _ sq dv =>
      refine ⟨a, xs, rfl, sqT_ex S2.sr.fh sq, ?_, F, H, σ, env, F2, r.2, ds.map .d, env2, S2.ss, RAs.ofD dv, e3, fun F3 H3 σ' S3 k3 => q F3 H3 σ' S3 ((Kp.refl env σ).trans ((evA_ll hC ie e1).1.trans (frz_lk e2)) k3)⟩
      rw [dv.len, putGs_len e3, List.length_map]
  · cases e
theorem s_par (hC : CLk C) {es vs : List Expr} {gs : List Tg} {irs : List E} {k k2 : Nat} {tpos vpos : Pos} (hc : X.calm = true) (ha : PA X vs (tA X.K C irs)) (hg : PGs X es (gTs X.K C gs)) (hst : ∀ e ∈ es, ∀ y z, e ≠ .Starred y z) (hl : es.length = gs.length) (hl2 : irs.length ≤ 1000)
    (hs : swapsWithSole [.Tuple es k tpos] (.Tuple vs k2 vpos) pos.line X.env = pure false) (hw : swappedStores [.Tuple es k tpos] (.Tuple vs k2 vpos) X.env = pure none) : PS X (.Assign [.Tuple es k tpos] (.Tuple vs k2 vpos) pos) (tS X.K C fuel (.par gs irs)) := by
  refine PS.imp' (ps_asg (pe_tup ha) (pg_tup (n := gs.length) hc hg ((find_of hst _).1.trans hl) (find_of hst _).2) hs hw (each_of (fun y z h => by cases h) _)) fun D σ H ⟨F, env, fl, s, e, q⟩ => ?_
  simp only [exS] at e
  obtain ⟨p, e1, e⟩ := bs e
  obtain ⟨r, e2, e⟩ := bs e
  obtain ⟨env2, e3, rfl⟩ := mapnx e
  refine ⟨F, env, p.1, p.2, s, e1, fun F1 H1 xs S1 r1 => ⟨?_, fun z hz => ?_⟩⟩
  · rw [r1.len, evAs_len e1, line_eq]
    have : (1000 : Nat) ≤ line := by decide
    omega
  · obtain ⟨F2, S2, r2, _⟩ := keepAs_ok S1 r1 e2
    have n : Nw F2 H1 F2 (upd H1 z (.tup xs)) := Nw.new S2.sr.fh hz
    have S3 := S2.trans (Se.nw S2.sr n)
    refine ⟨z, xs, rfl, .inl (.inl upd_same), ?_, F, H, σ, env, F2, r.2, r.1, env2, S3.ss, r2.mono (Se.nw S2.sr n), e3, fun F3 H3 σ' S4 k4 => q F3 H3 σ' S4 ((Kp.refl env σ).trans ((evAs_ll hC irs e1).1.trans (keepAs_lk e2)) k4)⟩
    rw [r2.len, List.length_map, putGs_len e3]
end
end Ev

/-! Ev, part S2: swapped stores, op=, while, for. -/
namespace Ev
open PySem PySem.Spec PyProof.Rows L2
section
variable {K : PySem.W.Frag} {C : Sem0} {X : Cx} {F F' H H' F0 H0 F1 H1 : Hp} {σ σ' σ0 σ1 : L2.St} {env env' env0 env1 : En} {fuel : Nat}
variable {e : Expr} {ie : E} {pos : Pos}
theorem s_setLc (hC : CLk C) {i : Nat} {y : Str} {py spos : Pos} {elt tg iter : Expr} {ifs : List Expr} {scope : Scope} {ownP : List (Str × Nat)} {k : Wk} {irs icond : List E} {ielt : E} {itg : Tn} (hc : X.calm = true) (hN : X.N.Nodup) (hy : X.N[i]? = some y) (hyl : X.env.scope.names.lookup y = some .local)
    (hsw : swapsWith (.ListComp elt [⟨tg, iter, ifs, 0⟩] scope pos) (some (.Name y py)) spos.line X.env = pure true) (hi : PI X tg iter (tI X.K C k irs)) (ok : BlkOk X.N X.env.scope scope ownP)
    (hg : ∀ (s : Shared) (H : Hp) (C' : Addr) (cl : List (Str × Addr)) (fp : List Addr), PG (X.blk s H scope (compEnvC scope cl C' X.env) fp) tg (gD X.K itg)) (ht : ∀ (s : Shared) (H : Hp) (C' : Addr) (cl : List (Str × Addr)) (fp : List Addr), PTs (X.blk s H scope (compEnvC scope cl C' X.env) fp) ifs (tCd X.K C icond))
    (he : ∀ (s : Shared) (H : Hp) (C' : Addr) (cl : List (Str × Addr)) (fp : List Addr), PE (X.blk s H scope (compEnvC scope cl C' X.env) fp) elt (tE X.K C ielt)) (hs : ∀ x, foldedSetIterable iter X.env x = pure x) (hown : ∀ j ∈ tns itg, j ∈ ownP.map (·.2)) :
    PS X (.Assign [.Name y py] (.ListComp elt [⟨tg, iter, ifs, 0⟩] scope pos) spos) (tS X.K C fuel (.asg (.nm i) (.comp ielt itg k irs icond (ownP.map (·.2))))) :=
  PS.imp' (ps_setLc hc hN hy hyl hsw hi ok hg ht he hs) fun D σ H h => lc_of hC hown (asg_of hC h)
/-! ### names exchanged -/
theorem putGs_nil {env : En} : putGs C [] [] env = some env := rfl
theorem par_nm {i : Nat} {gs : List Tg} {ts : List T} {S : Ss K F0 H0 σ0 env0 F H σ env} {vs : List V} (r : RAs K σ F H env H0 vs (ts.map .v)) (e : putGs C (.n (.nm i) :: gs) ts env = some env') :
    ∃ v vs' t ts' env1, vs = v :: vs' ∧ ts = t :: ts' ∧ putGs C gs ts' env1 = some env' ∧ Ss K F0 H0 σ0 env0 F H (σ.set i (some v)) env1 ∧ RAs K (σ.set i (some v)) F H env1 H0 vs' (ts'.map .v) ∧ Kp env σ (σ.set i (some v)) ∧ Lk env env1 := by
  cases ts with
  | nil => simp [putGs] at e
  | cons t ts =>
    simp only [putGs, putG] at e
    obtain ⟨e1, g1, g2⟩ := bs e
    cases r with
    | @cons v vs _ _ h r n =>
      have g := putN_gp h g1
      exact ⟨v, vs, t, ts, e1, rfl, rfl, g2, putN_ok S h g1, RAs.gp g r fun p hp hq => n p hq hp, g.kp, putN_lk g1⟩
theorem par_end {ts : List T} {vs : List V} (r : RAs K σ F H env H0 vs (ts.map .v)) (e : putGs C [] ts env = some env') : vs = [] ∧ env' = env := by
  cases ts with
  | nil =>
    cases r
    simp only [putGs] at e
    cases e
    exact ⟨rfl, rfl⟩
  | cons t ts => simp [putGs] at e
theorem s_par2 (hC : CLk C) {i j : Nat} {x y : Str} {a b : Expr} {ia ib : E} {px py pt : Pos} {kt k2 : Nat} {pt2 : Pos} (hc : X.calm = true) (hN : X.N.Nodup) (hi : X.N[i]? = some x) (hj : X.N[j]? = some y) (hij : i ≠ j)
    (hx : X.env.scope.names.lookup x = some .local) (hy : X.env.scope.names.lookup y = some .local) (ha : PA X [a, b] (tA X.K C [ia, ib])) (hw : swappedStores [.Tuple [.Name x px, .Name y py] kt pt] (.Tuple [a, b] k2 pt2) X.env = pure (some [x, y]))
    (hs : swapsWithSole [.Tuple [.Name x px, .Name y py] kt pt] (.Tuple [a, b] k2 pt2) pos.line X.env = pure false) :
    PS X (.Assign [.Tuple [.Name x px, .Name y py] kt pt] (.Tuple [a, b] k2 pt2) pos) (tS X.K C fuel (.par [.n (.nm i), .n (.nm j)] [ia, ib])) := by
  refine PS.imp' (ps_par hc hN hi hj hij hx hy ha hw hs) fun D σ H ⟨F, env, fl, s, e, q⟩ => ?_
  simp only [exS] at e
  obtain ⟨p, e1, e⟩ := bs e
  obtain ⟨r, e2, e⟩ := bs e
  obtain ⟨env2, e3, rfl⟩ := mapnx e
  refine ⟨F, env, p.1, p.2, s, e1, fun F1 H1 vs S1 r1 => ?_⟩
  obtain ⟨F2, S2, r2, _⟩ := keepAs_ok S1 r1 e2
  obtain ⟨v, vs1, t1, ts1, n1, rfl, z1, g1, T1, q1, k1, l1⟩ := par_nm (S := S2.ss) r2 e3
  obtain ⟨w, vs2, t2, ts2, n2, rfl, rfl, g2, T2, q2, k2, l2⟩ := par_nm (S := T1) q1 g1
  obtain ⟨rfl, rfl⟩ := par_end q2 g2
  exact ⟨v, w, rfl, q F2 H1 _ T2 ((Kp.refl env σ).trans ((evAs_ll hC _ e1).1.trans (keepAs_lk e2)) (k1.trans l1 k2))⟩
theorem s_par3 (hC : CLk C) {i j l : Nat} {x y z : Str} {a b c : Expr} {ia ib ic : E} {px py pz pt : Pos} {kt k2 : Nat} {pt2 : Pos} (hc : X.calm = true) (hN : X.N.Nodup) (hi : X.N[i]? = some x) (hj : X.N[j]? = some y) (hl : X.N[l]? = some z) (hij : i ≠ j) (hil : i ≠ l) (hjl : j ≠ l)
    (hx : X.env.scope.names.lookup x = some .local) (hy : X.env.scope.names.lookup y = some .local) (hz : X.env.scope.names.lookup z = some .local) (ha : PA X [a, b, c] (tA X.K C [ia, ib, ic]))
    (hw : swappedStores [.Tuple [.Name x px, .Name y py, .Name z pz] kt pt] (.Tuple [a, b, c] k2 pt2) X.env = pure (some [x, y, z]))
    (hs : swapsWithSole [.Tuple [.Name x px, .Name y py, .Name z pz] kt pt] (.Tuple [a, b, c] k2 pt2) pos.line X.env = pure false) :
    PS X (.Assign [.Tuple [.Name x px, .Name y py, .Name z pz] kt pt] (.Tuple [a, b, c] k2 pt2) pos) (tS X.K C fuel (.par [.n (.nm i), .n (.nm j), .n (.nm l)] [ia, ib, ic])) := by
  refine PS.imp' (ps_par3 hc hN hi hj hl hij hil hjl hx hy hz ha hw hs) fun D σ H ⟨F, env, fl, s, e, q⟩ => ?_
  simp only [exS] at e
  obtain ⟨p, e1, e⟩ := bs e
  obtain ⟨r, e2, e⟩ := bs e
  obtain ⟨env2, e3, rfl⟩ := mapnx e
  refine ⟨F, env, p.1, p.2, s, e1, fun F1 H1 vs S1 r1 => ?_⟩
  obtain ⟨F2, S2, r2, _⟩ := keepAs_ok S1 r1 e2
  obtain ⟨v, vs1, t1, ts1, n1, rfl, z1, g1, T1, q1, k1, l1⟩ := par_nm (S := S2.ss) r2 e3
  obtain ⟨w, vs2, t2, ts2, n2, rfl, rfl, g2, T2, q2, k2, l2⟩ := par_nm (S := T1) q1 g1
  obtain ⟨u, vs3, t3, ts3, n3, rfl, rfl, g3, T3, q3, k3, l3⟩ := par_nm (S := T2) q2 g2
  obtain ⟨rfl, rfl⟩ := par_end q3 g3
  exact ⟨v, w, u, rfl, q F2 H1 _ T3 ((Kp.refl env σ).trans ((evAs_ll hC _ e1).1.trans (keepAs_lk e2)) ((k1.trans l1 k2).trans (l1.trans l2) k3))⟩
/-! ### op= -/
/-- x op= y by values: ints, a list's growth -/
def rAug (K : PySem.W.Frag) (o : Op) : TIp := fun x y H Q => (∃ a b z, x = .int a ∧ y = .int b ∧ augI o a b = some z ∧ Q (.int z) H) ∨ (o = .add ∧ rExt2 x y H Q)
theorem ip_ints {op : Operator} {o : Op} (h : OpR X (inplaceOp op) (fun x y H Q => ∃ a b z, x = .int a ∧ y = .int b ∧ augI o a b = some z ∧ Q (.int z) H)) (hl : o ≠ .add) : PIp X op (rAug X.K o) := by
  intro pins s σ H x y v u Q I rx ry q
  rcases q with q | ⟨q, _⟩
  · exact h pins s σ H x y v u Q I rx ry q
  · exact absurd q hl
theorem ipa_add : PIp X .Add (rAug X.K .add) := by
  intro pins s σ H x y v u Q I rx ry q
  rcases q with ⟨a, b, z, rfl, rfl, h, q⟩ | ⟨_, q⟩
  · cases h
    exact ip_add pins s σ H _ _ v u Q I rx ry ⟨a, b, rfl, rfl, q⟩
  · exact iop_ext pins s σ H x y v u Q I rx ry q
theorem ipa_sub : PIp X .Sub (rAug X.K .sub) := by
  intro pins s σ H x y v u Q I rx ry q
  rcases q with ⟨a, b, z, rfl, rfl, h, q⟩ | ⟨z, q⟩
  · cases h
    exact ip_sub pins s σ H _ _ v u Q I rx ry ⟨a, b, rfl, rfl, q⟩
  · cases z
theorem ipa_fdiv : PIp X .FloorDiv (rAug X.K .fdiv) := by
  intro pins s σ H x y v u Q I rx ry q
  rcases q with ⟨a, b, z, rfl, rfl, h, q⟩ | ⟨z, q⟩
  · have h' : (if divOk b = true then some (a.fdiv b) else none) = some z := h
    split at h'
    · rename_i hd
      cases h'
      obtain ⟨h1, h2⟩ := divOk_ok hd
      obtain ⟨t1, rfl⟩ := rx
      obtain ⟨t2, rfl⟩ := ry
      exact ifloordiv_int h1 ⟨.int _, H, I.tok _, ⟨_, rfl⟩, q⟩ (.inl (PyProof.noPylong_of_log2 h2))
    · cases h'
  · cases z
theorem s_aug (hC : CLk C) {i : Nat} {x : Str} {op : Operator} {o : Op} {pos' : Pos} (hN : X.N.Nodup) (hi : X.N[i]? = some x) (hx : Loc X.env.scope x) (he : PE X e (tE X.K C ie)) (ho : PIp X op (rAug X.K o)) (hf : X.fn x = true ∨ X.env.scope.names.lookup x = some .local) :
    PS X (.AugAssign (.Name x pos') op e pos) (tS X.K C fuel (.aug i o ie)) := by
  refine PS.imp' (ps_aug hN hi hx he ho hf) fun D σ H ⟨F, env, fl, s, e, q⟩ => ?_
  simp only [exS] at e
  split at e
  · rename_i hset
    obtain ⟨p, e1, e⟩ := bs e
    obtain ⟨y, e2, e⟩ := bs e
    obtain ⟨env2, e3, rfl⟩ := mapnx e
    have h0 : ∃ v, σ[i]? = some (some v) := by
      unfold isSet at hset
      split at hset
      · rename_i xs m z
        obtain ⟨p, _, h, _⟩ := s.ow i xs m z
        exact ⟨_, h⟩
      · rename_i d z
        obtain ⟨v, h, _⟩ := s.dd i d z
        exact ⟨v, h⟩
      · cases hset
    obtain ⟨v, h0⟩ := h0
    have lk := (evA_ll hC ie e1).1
    refine ⟨v, h0, F, env, p.1, p.2, s, e1, fun F1 H1 u S1 r1 => ?_⟩
    have rd := r1.rd S1.sr e2
    simp only [augF] at e3
    split at e3
    · rename_i _ a b z
      obtain ⟨w, g1, g2⟩ := bs e3
      obtain ⟨v', h1, h2⟩ := S1.sr.dd i _ z
      rw [h0] at h1
      cases h1
      cases h2
      rw [rd.int]
      refine .inl ⟨a, _, w, rfl, rfl, g1, ?_⟩
      have ra : RA X.K σ F1 H1 p.2 H (.int w) (.v (.d (.int w))) := .int w
      exact q F1 H1 _ (putN_ok S1.ss ra g2) ((Kp.refl env σ).trans lk (putN_gp ra g2).kp)
    · rename_i _ xs m ys z
      split at e3
      · rename_i hm
        cases e3
        obtain ⟨l, ws, h1, h2, h3, h4⟩ := S1.sr.ow i _ _ z
        rw [h0] at h1
        cases h1
        obtain ⟨b, zs, rfl, h5, h6⟩ := rd.lst S1.sr.fh
        refine .inr ⟨hm.1, l, b, ws, zs, rfl, rfl, h2, h5, ?_, ?_⟩
        · rw [line_eq, h4.len, h6.len]; exact hm.2.2
        · have hs : σ.set i (some (.ref l)) = σ := by
            apply List.ext_getElem?
            intro j
            by_cases hj : i = j
            · subst hj
              rw [List.getElem?_set_self (List.getElem?_eq_some_iff.mp h0).1, h0]
            · rw [List.getElem?_set_ne hj]
          show D.nx (σ.set i (some (.ref l))) _
          rw [hs]
          exact q F1 _ σ (S1.ss.setOwn (n := m) z h0 h2 (h4.app h6)) (Kp.refl _ _)
      · cases e3
    · cases e3
  · cases e
/-! ### while -/
theorem s_while (hC : CLk C) {c : Expr} {ic : E} {body : List Stmt} {ib : List S} (hp : PassesOwn (model X.prog X.w) X.A X.env X.xe) (hc : PT X c (tT X.K C ic)) (hb : PSs X body (tSs X.K C fuel ib)) : PS X (.While c body [] pos) (tS X.K C fuel (.whl ic ib)) := by
  refine PS.imp' (ps_while hp hc hb) fun D σ H ⟨F, env, fl, s, e, q⟩ => ?_
  simp only [exS] at e
  refine ⟨fun n σc Hc => ∃ Fc envc, Ss X.K F H σ env Fc Hc σc envc ∧ Kp env σ σc ∧ Lk env envc ∧ whlN (fun env => (evA C ic env).bind fun p => (boolA p.2 p.1).bind fun k => some (k, p.2)) (fun env => exB C fuel ib env) n envc = some fl, ⟨fuel, F, env, Ss.refl s, Kp.refl _ _, Lk.refl _, e⟩, ?_⟩
  rintro n σc Hc ⟨Fc, envc, S, kp, lk, e⟩
  cases n with
  | zero => cases e
  | succ n =>
    simp only [whlN] at e
    obtain ⟨p, e1, e⟩ := bs e
    obtain ⟨a, e2, e1⟩ := bs e1
    obtain ⟨k, e3, e1⟩ := bs e1
    cases e1
    have l1 := (evA_ll hC ic e2).1
    refine ⟨Fc, envc, a.1, a.2, k, S.sr, e2, e3, fun F1 H1 S1 => ?_⟩
    have S2 := S.trans S1.ss
    cases k with
    | true =>
      show ∃ N : L2.St → Hp → Prop, _ ∧ _
      simp only [if_pos] at e
      obtain ⟨g, e4, e⟩ := bs e
      refine ⟨fun σ' H' => ∃ F' env', Ss X.K F H σ env F' H' σ' env' ∧ Kp env σ σ' ∧ Lk env env' ∧ whlN (fun env => (evA C ic env).bind fun p => (boolA p.2 p.1).bind fun k => some (k, p.2)) (fun env => exB C fuel ib env) n env' = some fl, fun σ' H' h => ⟨n, Nat.lt_succ_self n, h⟩, F1, a.2, g, S1.sr, e4, ?_⟩
      have l2 := (exB_ll hC fuel ib e4).1
      cases g with
      | nx en => exact fun F' H' σ' S3 k3 => ⟨F', en, S2.trans S3, kp.trans (lk.trans l1) k3, (lk.trans l1).trans l2, e⟩
      | ct en => exact fun F' H' σ' S3 k3 => ⟨F', en, S2.trans S3, kp.trans (lk.trans l1) k3, (lk.trans l1).trans l2, e⟩
      | bk en =>
        cases e
        exact fun F' H' σ' S3 k3 => q F' H' σ' (S2.trans S3) (kp.trans (lk.trans l1) k3)
      | rt t en =>
        cases e
        exact fun F' H' σ' v S3 k3 r => q F' H' σ' v (S2.trans S3) (kp.trans (lk.trans l1) k3) (r.back S2 kp (lk.trans l1))
    | false =>
      show D.nx σc H1
      simp only [Bool.false_eq_true, if_false] at e
      cases e
      exact q F1 H1 σc S2 kp
/-! ### for -/
theorem s_for (hC : CLk C) {tg iter : Expr} {itg : Tn} {k : Wk} {irs : List E} {body : List Stmt} {ib : List S} (hp : PassesOwn (model X.prog X.w) X.A X.env X.xe) (hc : X.calm = true) (hi : PI X tg iter (tI X.K C k irs)) (hg : PG X tg (gD X.K itg)) (hb : PSs X body (tSs X.K C fuel ib))
    (hs : ∀ x, foldedSetIterable iter X.env x = pure x) : PS X (.For tg iter body [] pos) (tS X.K C fuel (.for itg k irs ib)) := by
  refine PS.imp' (ps_for hp hc hi hg hb hs) fun D σ H ⟨F, env, fl, s, e, q⟩ => ?_
  simp only [exS] at e
  obtain ⟨p, e1, e⟩ := bs e
  obtain ⟨ds, e2, e⟩ := bs e
  obtain ⟨its, e3, e⟩ := bs e
  obtain ⟨g, e4, e⟩ := bs e
  refine ⟨F, env, p.1, p.2, ds, its, s, e1, e2, e3, fun F1 H1 vs J S1 r1 wk => ?_⟩
  obtain ⟨lok, low⟩ := lockA_ok p.1 S1.sr
  have SL : Se X.K σ F H env F1 H1 (lockA p.1 p.2) := S1.same lok low
  have l0 := (evAs_ll hC irs e1).1
  -- what the loop's end is to the statement's
  have endN : ∀ {env' : En} {Fc Hc : Hp} {σc : L2.St}, g = .nx env' → Ss X.K F1 H1 σ (lockA p.1 p.2) Fc Hc σc env' → Kp (lockA p.1 p.2) σ σc → D.nx σc Hc := by
    rintro env' Fc Hc σc rfl S kp
    cases e
    obtain ⟨uok, uow⟩ := unlockA_ok p.1 S.sr
    refine q Fc Hc σc ((SL.ss.trans S).same uok uow) fun i xs m z => ?_
    obtain ⟨ys, z1, _⟩ := l0 i xs m z
    have z2 : (lockA p.1 p.2)[i]? = some (.own ys ((m + 2 * cntR i p.1) + 1)) := by
      rw [lockA_get, z1]; show some (Sl.own ys (m + 1 + 2 * cntR i p.1)) = _; congr 2; omega
    exact kp i ys _ z2
  refine ⟨fun i m σc Hc => m = its.length - i ∧ ∃ Fc envc, i ≤ its.length ∧ Ss X.K F1 H1 σ (lockA p.1 p.2) Fc Hc σc envc ∧ Kp (lockA p.1 p.2) σ σc ∧ Lk (lockA p.1 p.2) envc ∧ forL (fun x env => (bindN itg x env).bind fun env => exB C fuel ib env) (its.drop i) envc = some g,
    ⟨its.length, rfl, F1, _, Nat.zero_le _, Ss.refl lok, Kp.refl _ _, Lk.refl _, e4⟩, ?_⟩
  rintro i m σc Hc ⟨rfl, Fc, envc, hi, S, kp, lk, ec⟩
  have al : Rvs X.K Fc Hc vs ds := alive S1.sr r1 e2 S kp lk
  by_cases hlt : i < its.length
  · refine .inr ⟨wk.go Fc Hc i S.sr.fh al hlt, fun σ' H' => ∃ F' env', Ss X.K F1 H1 σ (lockA p.1 p.2) F' H' σ' env' ∧ Kp (lockA p.1 p.2) σ σ' ∧ Lk (lockA p.1 p.2) env' ∧ forL (fun x env => (bindN itg x env).bind fun env => exB C fuel ib env) (its.drop (i + 1)) env' = some g,
      fun σ' H' ⟨F', env', h⟩ => ⟨its.length - (i + 1), by omega, rfl, F', env', hlt, h⟩, fun x H' y => ?_⟩
    obtain ⟨d, F', hd, nw, dv⟩ := wk.yl Fc Hc i x H' S.sr.fh al hlt y
    have hdrop : its.drop i = d :: its.drop (i + 1) := by
      rw [List.drop_eq_getElem_cons hlt]
      rw [List.getElem?_eq_getElem hlt] at hd
      cases hd; rfl
    rw [hdrop] at ec
    simp only [forL] at ec
    obtain ⟨f, e5, ec⟩ := bs ec
    obtain ⟨en1, e6, e5⟩ := bs e5
    have S' : Ss X.K F1 H1 σ (lockA p.1 p.2) F' H' σc envc := S.trans (Se.nw S.sr nw).ss
    refine ⟨F1, H1, σ, lockA p.1 p.2, F', envc, d, en1, S', dv, e6, fun σ2 S2 G2 _ => ⟨F', en1, f, S2.sr, e5, ?_⟩⟩
    have k2 : Kp (lockA p.1 p.2) σ σ2 := kp.trans lk G2.kp
    have l2 : Lk (lockA p.1 p.2) en1 := lk.trans (bindN_lk itg e6)
    have l3 := (exB_ll hC fuel ib e5).1
    cases f with
    | nx en => exact fun F3 H3 σ3 S3 k3 => ⟨F3, en, S2.trans S3, k2.trans l2 k3, l2.trans l3, ec⟩
    | ct en => exact fun F3 H3 σ3 S3 k3 => ⟨F3, en, S2.trans S3, k2.trans l2 k3, l2.trans l3, ec⟩
    | bk en => exact fun F3 H3 σ3 S3 k3 => endN (Option.some.inj ec).symm (S2.trans S3) (k2.trans l2 k3)
    | rt t en =>
      cases ec
      cases e
      refine fun F3 H3 σ3 v S3 k3 r => ?_
      have S4 := S2.trans S3
      obtain ⟨uok, uow⟩ := unlockA_ok p.1 S4.sr
      have k4 := k2.trans l2 k3
      refine q F3 H3 σ3 v ((SL.ss.trans S4).same uok uow) (fun i xs m z => ?_) ?_
      · obtain ⟨ys, z1, _⟩ := l0 i xs m z
        have z2 : (lockA p.1 p.2)[i]? = some (.own ys ((m + 2 * cntR i p.1) + 1)) := by
          rw [lockA_get, z1]; show some (Sl.own ys (m + 1 + 2 * cntR i p.1)) = _; congr 2; omega
        exact k4 i ys _ z2
      · have rb := r.back S2 k2 l2
        refine ⟨rb.d, fun xs hx => ?_⟩
        obtain ⟨p', ws, h1, h2, h3, h4, h5⟩ := rb.f xs hx
        refine ⟨p', ws, h1, h2, h3, h4, ?_⟩
        rcases h5 with h5 | ⟨j, ys, g1, g2⟩
        · refine .inl ?_
          cases z : H p' with
          | none => rfl
          | some o => exact absurd h5 (S1.dom p' (by rw [z]; exact fun z => by cases z))
        · -- a slot that is not walked
          have g3 : p.2[j]? = some (.own ys 0) := by
            rw [lockA_get] at g1
            split at g1
            · rename_i zs m' z
              rw [z]
              have : m' + 2 * cntR j p.1 = 0 ∧ zs = ys := by
                injection g1 with g1
                injection g1 with g5 g6
                exact ⟨g6, g5⟩
              obtain ⟨z1, rfl⟩ := this
              have : m' = 0 := by omega
              subst this; rfl
            · exact g1
          exact ow0_back S1.ss (Kp.refl _ _) l0 ⟨j, ys, g3, g2⟩
  · have hi' : i = its.length := by omega
    subst hi'
    refine .inl ⟨wk.st Fc Hc _ S.sr.fh al rfl, ?_⟩
    rw [List.drop_length] at ec
    simp only [forL] at ec
    exact endN (Option.some.inj ec).symm S kp
end
end Ev

/-! Ev, part T: the translation of a def's text, side conditions. -/
namespace Ev
open PySem PySem.Spec PyProof.Rows L2
def isStar : Expr → Bool
  | .Starred .. => true
  | _ => false
def isSlice : Expr → Bool
  | .Slice .. => true
  | _ => false
theorem star_of {e : Expr} (h : isStar e = false) : ∀ y z, e ≠ .Starred y z := fun y z q => by subst q; cases h
theorem stars_of {es : List Expr} (h : es.any isStar = false) : ∀ e ∈ es, ∀ y z, e ≠ .Starred y z := fun e he => star_of (by
  cases q : isStar e with
  | false => rfl
  | true => rw [List.any_eq_true.mpr ⟨e, he, q⟩] at h; cases h)
theorem plainIx_of {b : Expr} (h : isSlice b = false) : PlainIx b := fun o i => by
  cases b <;> first | rfl | cases h
def swNames (sc : Scope) (ts : List Expr) : List Str := ts.filterMap fun
  | .Name id pos => if sc.names.lookup id == some .local && pos.line == (ts.head?.map (·.pos.line)).getD 0 then some id else none
  | _ => none
/-- which stores are exchanged -/
def swS (sc : Scope) (targets : List Expr) (value : Expr) : Option (Option (List Str)) := match targets, value with
  | [.Tuple ts _ _], .Tuple vs _ _ =>
    if (!(ts.length == 2 || ts.length == 3) || vs.length != ts.length) = true then some none
    else if vs.any isStar = true then some none
    else if ((swNames sc ts).length != ts.length || (swNames sc ts).eraseDups.length != (swNames sc ts).length) = true then some none
    else if vs.all (foldedForSure 8) = true then some none
    else if vs.all (constantsAlone 8) = true then none
    else some (some (swNames sc ts))
  | [.Tuple _ _ _], .Name _ _ => some none
  | [.Tuple _ _ _], .Call _ _ _ _ => some none
  | [.Tuple _ _ _], .IfExp _ _ _ _ => some none
  | [.Tuple _ _ _], .Subscript _ _ _ => some none
  | [.Tuple _ _ _], .ListComp _ _ _ _ => some none
  | [.Tuple _ _ _], .BinOp _ _ _ _ => some none
  | [.Subscript _ _ _], _ => some none
  | _, _ => none
theorem swS_ok {sc : Scope} {env : Env} (hs : env.scope = sc) (hk : sc.kind = .function) {ts : List Expr} {v : Expr} {r : Option (List Str)} (h : swS sc ts v = some r) : swappedStores ts v env = pure r := by
  subst hs
  have hb : env.blockKind = .function := by unfold Env.blockKind; rw [hk]; rfl
  unfold swS at h
  split at h
  · rename_i ts k p vs k2 p2
    unfold swappedStores
    simp only [hb]
    have e1 : (ScopeKind.function != ScopeKind.function) = false := rfl
    rw [e1, Bool.or_false]
    split at h
    · rename_i c; cases h; rw [if_pos c]
    · rename_i c; rw [if_neg c]
      split at h
      · rename_i c2; cases h; exact if_pos c2
      · rename_i c2; refine (if_neg c2).trans ?_
        split at h
        · rename_i c3; cases h
          exact if_pos c3
        · rename_i c3
          refine (if_neg c3).trans ?_
          split at h
          · rename_i c4; cases h; exact if_pos c4
          · rename_i c4
            refine (if_neg c4).trans ?_
            split at h
            · cases h
            · rename_i c5
              cases h
              exact if_neg c5
  all_goals first | (cases h; rfl) | cases h
end Ev

/-! Ev, part T2: the translation of expressions. -/
namespace Ev
open PySem PySem.Spec PyProof.Rows L2
/-! ### what the def's body may lean on -/
structure FIn where
  ps : List Str
  rf : List Bool
structure Gx where
  fns : List (Str × Nat)
  inf : List FIn
  bis : List Str
  gcd : Bool
  cns : List (Str × D)
  lnd : List Str := []
structure GOk (P : Program) (w : World) (K : PySem.W.Frag) (mg : Str → Option Value) (base : Heap) (C : Sem0) (k : Nat) (G : Gx) : Prop where
  fn : ∀ x f i, G.fns.lookup x = some f → G.inf[f]? = some i → ∃ a fd, mg x = some (.ref a) ∧ PySem.W.keepIn K (.ref a) = true ∧ FnG P w K mg base k a fd i.ps (sF K C f) ∧
    fd.params.posonlyargs = [] ∧ fd.params.args.map (·.arg) = i.ps ∧ fd.params.vararg = none ∧ fd.params.kwonlyargs = [] ∧ fd.params.kwarg = none ∧ fd.defaults = .none
  bi : ∀ x, G.bis.contains x = true → mg x = none
  gc : G.gcd = true → mg "gcd" = some (.builtin "math.gcd")
  cn : ∀ x d, G.cns.lookup x = some d → ∃ u v, mg x = some u ∧ RelV v u ∧ ∀ F, Dv K F v d
structure XOk (X : Cx) (G : Gx) (N : List Str) (C : Sem0) (k : Nat) (sc : Scope) : Prop where
  calm : X.calm = true
  nn : X.N = N
  nd : N.Nodup
  room : Room k X.A
  gd : X.A.guards = some []
  es : X.env.scope = sc
  kd : sc.kind = .function
  gk : GOk X.prog X.w X.K X.mg X.base C k G
  cl : CLk C
theorem XOk.blk {X : Cx} {G : Gx} {N : List Str} {C : Sem0} {k : Nat} {sc scope : Scope} (x : XOk X G N C k sc) (hk : scope.kind = .function) (s : Shared) (H : Hp) (C' : Addr) (cl : List (Str × Addr)) (fp : List Addr) :
    XOk (X.blk s H scope (compEnvC scope cl C' X.env) fp) G N C k (relS scope sc) := by
  refine ⟨x.calm, x.nn, x.nd, x.room, x.gd, ?_, hk, x.gk, x.cl⟩
  have := x.es
  subst this
  rfl
theorem XOk.u65 {X : Cx} {G : Gx} {N : List Str} {C : Sem0} {k : Nat} {sc : Scope} (x : XOk X G N C k sc) : X.A.units + 65 < cLine := by have := x.room.un; omega
/-! ### names -/
def ixOf : List Str → Str → Option Nat
  | [], _ => none
  | y :: r, x => if (y == x) = true then some 0 else (ixOf r x).map (· + 1)
theorem ixOf_ok : ∀ {N : List Str} {x : Str} {i : Nat}, ixOf N x = some i → N[i]? = some x
  | [], _, _, h => by cases h
  | y :: r, x, i, h => by
    simp only [ixOf] at h
    split at h
    · rename_i e
      cases h
      rw [eq_of_beq e]; rfl
    · cases q : ixOf r x with
      | none => rw [q] at h; cases h
      | some j =>
        rw [q] at h; cases h
        have := ixOf_ok q
        simpa using this
def vis (sc : Scope) (x : Str) : Bool := match sc.names.lookup x with
  | some .local => true
  | some .cell => true
  | some .free => true
  | _ => false
theorem vis_ok {sc : Scope} {x : Str} (h : vis sc x = true) : Vis sc x := by
  unfold vis at h
  split at h
  · exact .inl (by assumption)
  · exact .inr (.inl (by assumption))
  · exact .inr (.inr (by assumption))
  · cases h
def glb (sc : Scope) (x : Str) : Bool := match sc.names.lookup x with
  | some .globalImplicit => true
  | _ => false
theorem glb_ok {sc : Scope} {x : Str} (h : glb sc x = true) : sc.names.lookup x = some .globalImplicit := by
  unfold glb at h
  split at h
  · assumption
  · cases h
def okName (x : Str) : Bool := !(x == ("__debug__" : Str)) && !(x == ("__classdict__" : Str))
theorem okName_ok {x : Str} (h : okName x = true) : (x == ("__debug__" : Str)) = false ∧ (x == ("__classdict__" : Str)) = false := by
  unfold okName at h
  simpa using h
/-! ### operators, built-ins -/
def binO : Operator → Option Op
  | .Add => some .add
  | .Sub => some .sub
  | .Mult => some .mul
  | .FloorDiv => some .fdiv
  | .Mod => some .mod
  | .Pow => some .pow
  | .LShift => some .shl
  | _ => none
theorem binO_ok {X : Cx} {op : Operator} {o : Op} (h : binO op = some o) : OpR X (binaryOp op) (r2 X.K o) := by
  cases op <;> cases h
  · exact o_add
  · exact o_sub
  · exact o_mul
  · exact o_mod
  · exact o_pow
  · exact o_shl
  · exact o_fdiv
def cmpO : CmpOp → Option Op
  | .Eq => some .eq
  | .NotEq => some .ne
  | .Lt => some .lt
  | .LtE => some .le
  | .Gt => some .gt
  | .GtE => some .ge
  | .Is => some .isB
  | .IsNot => some .notB
  | .In => some .isin
  | .NotIn => some .notin
theorem cmpO_ok {X : Cx} {op : CmpOp} {o : Op} (hu : X.A.units + 65 < cLine) (h : cmpO op = some o) : OpR X (compareOp op) (r2 X.K o) := by
  cases op <;> cases h
  · exact c_eq (by omega)
  · exact c_ne (by omega)
  · exact c_lt (by omega)
  · exact c_le
  · exact c_gt
  · exact c_ge
  · exact c_isB
  · exact c_notB
  · exact c_in hu
  · exact c_notin hu
inductive BiV where
  | b (id : String) | t (id : String)
/-- the built-ins by name and number of arguments -/
def biL : List (Str × Nat × BiV × Op) := [("len", 1, .b "len", .len), ("abs", 1, .b "abs", .abs), ("int", 1, .t "int", .toInt), ("max", 2, .b "max", .max2), ("min", 2, .b "min", .min2), ("max", 1, .b "max", .maxL), ("min", 1, .b "min", .minL),
  ("all", 1, .b "all", .all), ("any", 1, .b "any", .any), ("sum", 1, .b "sum", .sum), ("tuple", 1, .t "tuple", .tuple), ("list", 1, .t "list", .list), ("repr", 1, .b "repr", .repr), ("sorted", 1, .b "sorted", .sorted), ("divmod", 2, .b "divmod", .divmod)]
def biF (x : Str) (n : Nat) : List (Str × Nat × BiV × Op) → Option (BiV × Op)
  | [] => none
  | (y, m, v, o) :: r => if (y == x && m == n) = true then some (v, o) else biF x n r
def BiV.val : BiV → Value
  | .b id => .builtin id
  | .t id => .type id
theorem biF_in {x : Str} {n : Nat} {r : BiV × Op} : ∀ {l : List (Str × Nat × BiV × Op)}, biF x n l = some r → (x, n, r.1, r.2) ∈ l
  | [], h => by cases h
  | (y, m, v, o) :: l, h => by
    simp only [biF] at h
    split at h
    · rename_i e
      cases h
      simp only [Bool.and_eq_true] at e
      rw [eq_of_beq e.1, eq_of_beq e.2]
      exact List.mem_cons_self ..
    · exact List.mem_cons_of_mem _ (biF_in h)
theorem bi_all {X : Cx} (hc : X.calm = true) (hg : X.A.guards = some []) (hu : X.A.units + 65 < cLine) : ∀ p ∈ biL, CallR X p.2.2.1.val (rO X.K p.2.2.2) ∧ bootBuiltins p.1 = some p.2.2.1.val ∧ p.1 ≠ "__name__" ∧ (p.1 == ("__debug__" : Str)) = false := by
  intro p hp
  simp only [biL, List.mem_cons, List.not_mem_nil, or_false] at hp
  rcases hp with rfl | rfl | rfl | rfl | rfl | rfl | rfl | rfl | rfl | rfl | rfl | rfl | rfl | rfl | rfl
  · exact ⟨b_len, by rfl, by decide, by decide⟩
  · exact ⟨b_abs, by rfl, by decide, by decide⟩
  · exact ⟨b_int, by rfl, by decide, by decide⟩
  · exact ⟨b_max2 hc, by rfl, by decide, by decide⟩
  · exact ⟨b_min2 hc, by rfl, by decide, by decide⟩
  · exact ⟨b_maxL hc, by rfl, by decide, by decide⟩
  · exact ⟨b_minL hc, by rfl, by decide, by decide⟩
  · exact ⟨b_all hc, by rfl, by decide, by decide⟩
  · exact ⟨b_any hc, by rfl, by decide, by decide⟩
  · exact ⟨b_sum hc, by rfl, by decide, by decide⟩
  · exact ⟨b_tuple, by rfl, by decide, by decide⟩
  · exact ⟨b_list, by rfl, by decide, by decide⟩
  · exact ⟨b_repr hg hu, by rfl, by decide, by decide⟩
  · exact ⟨b_sorted, by rfl, by decide, by decide⟩
  · exact ⟨b_divmod, by rfl, by decide, by decide⟩
/-! ### the translation -/
def trL (f : Expr → Option E) : List Expr → Option (List E)
  | [] => some []
  | e :: es => (f e).bind fun i => (trL f es).bind fun is => some (i :: is)
def kwN : List Keyword → Option (List Str)
  | [] => some []
  | k :: ks => k.arg.bind fun x => (kwN ks).bind fun r => some (x :: r)
def tyOf (x : Str) : Option Ty := if (x == ("int" : Str)) = true then some .int else if (x == ("bool" : Str)) = true then some .bool else if (x == ("str" : Str)) = true then some .str else if (x == ("tuple" : Str)) = true then some .tuple else if (x == ("list" : Str)) = true then some .list else none
theorem tyOf_ok {x : Str} {t : Ty} (h : tyOf x = some t) : x = Str.ofString (tyName t) := by
  unfold tyOf at h
  split at h
  · rename_i e; cases h; exact eq_of_beq e
  split at h
  · rename_i e; cases h; exact eq_of_beq e
  split at h
  · rename_i e; cases h; exact eq_of_beq e
  split at h
  · rename_i e; cases h; exact eq_of_beq e
  split at h
  · rename_i e; cases h; exact eq_of_beq e
  cases h
def isIf : Expr → Bool
  | .IfExp .. => true
  | _ => false
mutual
def trTn (tk : Str → Bool) (N : List Str) : Nat → Expr → Option Tn
  | 0, _ => none
  | n + 1, .Name x _ => if tk x = true then (ixOf N x).map .nm else none
  | n + 1, .Tuple es _ _ => (trTns tk N n es).map .tp
  | _, _ => none
def trTns (tk : Str → Bool) (N : List Str) : Nat → List Expr → Option (List Tn)
  | 0, _ => none
  | _ + 1, [] => some []
  | n + 1, e :: es => (trTn tk N n e).bind fun t => (trTns tk N n es).bind fun ts => some (t :: ts)
end
/-- a global name that may be called as a built-in -/
def bisOk (G : Gx) (sc : Scope) (x : Str) : Bool := glb sc x && G.bis.contains x
def isTup : Expr → Bool
  | .Tuple .. => true
  | _ => false
def trI (f : Expr → Option E) (G : Gx) (sc : Scope) (tg it : Expr) : Option (Wk × List E) := match it with
  | .Call (.Name x _) [a] [] _ =>
    if (x == ("range" : Str) && bisOk G sc x && !isStar a) = true then (f a).map fun i => (.range, [i])
    else if (x == ("enumerate" : Str) && bisOk G sc x && !isStar a && isTup tg) = true then (f a).map fun i => (.enum, [i])
    else (f it).map fun i => (.seq, [i])
  | .Call (.Name x _) [a, b] [] _ =>
    if (x == ("range" : Str) && bisOk G sc x && !isStar a && !isStar b) = true then (f a).bind fun i => (f b).map fun j => (.range, [i, j])
    else if (x == ("zip" : Str) && bisOk G sc x && !isStar a && !isStar b && isTup tg) = true then (f a).bind fun i => (f b).map fun j => (.zip, [i, j])
    else if (x == ("enumerate" : Str) && bisOk G sc x && !isStar a && !isStar b && isTup tg) = true then (f a).bind fun i => (f b).map fun j => (.enum, [i, j])
    else (f it).map fun i => (.seq, [i])
  | .Set _ _ _ => none
  | _ => (f it).map fun i => (.seq, [i])
/-- the lists' methods -/
def muL (m : Str) (n : Nat) : Option Mt :=
  if (m == ("append" : Str) && n == 1) = true then some .append
  else if (m == ("extend" : Str) && n == 1) = true then some .extend
  else if (m == ("insert" : Str) && n == 2) = true then some .insert
  else if (m == ("pop" : Str) && n == 0) = true then some .pop
  else if (m == ("reverse" : Str) && n == 0) = true then some .reverse
  else none
def meL (m : Str) (n : Nat) : Option Me :=
  if (m == ("index" : Str) && n == 1) = true then some .index
  else if (m == ("count" : Str) && n == 1) = true then some .count
  else none
def ownOf (N : List Str) (scope : Scope) : List (Str × Nat) := scope.names.filterMap fun y => match y.2 with
  | .local => (ixOf N y.1).map fun i => (y.1, i)
  | .cell => (ixOf N y.1).map fun i => (y.1, i)
  | _ => none
def tkC (scope : Scope) (x : Str) : Bool := match scope.names.lookup x with
  | some .local => true
  | some .cell => true
  | _ => false
/-- a call by its name -/
def trCall (f : Expr → Option E) (G : Gx) (sc : Scope) (x : Str) (args : List Expr) (kws : List Keyword) : Option E :=
  if (glb sc x && okName x && !args.any isStar) = true then
    match G.fns.lookup x with
    | some g => (G.inf[g]?).bind fun i => (kwN kws).bind fun ks => (trL f args).bind fun irs => (trL f (kws.map (·.value))).bind fun kirs =>
      if (kwOk i.ps args.length ks (i.ps.map fun p => (ixOf (i.ps.take args.length ++ ks) p).getD 0) && decide (i.ps.map fun p => (ixOf (i.ps.take args.length ++ ks) p).getD 0).Nodup) = true then
        some (.call g i.rf (i.ps.map fun p => (ixOf (i.ps.take args.length ++ ks) p).getD 0) (irs ++ kirs)) else none
    | none => match kws, args with
      | [], [] => none
      | [], a :: as => if (x == ("gcd" : Str) && G.gcd) = true then (if as.length = 1 then (trL f (a :: as)).map (.op .gcd) else none)
        else if G.bis.contains x = true then
          (if (x == ("isinstance" : Str)) = true then (match as with
            | [.Name y _] => (tyOf y).bind fun t => if bisOk G sc y = true then (f a).map fun i => .op (.isi [t]) [i] else none
            | [.Tuple [.Name y _, .Name z _] _ _] => (tyOf y).bind fun t => (tyOf z).bind fun u => if (bisOk G sc y && bisOk G sc z) = true then (f a).map fun i => .op (.isi [t, u]) [i] else none
            | _ => none)
          else (biF x (as.length + 1) biL).bind fun r => (trL f (a :: as)).map (.op r.2)) else none
      | _, _ => none
  else none
def trMeth (f : Expr → Option E) (N : List Str) (sc : Scope) (x m : Str) (args : List Expr) (hl : Bool) : Option E :=
  if (vis sc x && okName x && hl && !args.any isStar && Nat.blt args.length 10) = true then
    (ixOf N x).bind fun i => match muL m args.length with
    | some mt => (trL f args).map (.mut mt i)
    | none => (meL m args.length).bind fun me => (trL f args).map (.met me i)
  else none
def trE (G : Gx) (N : List Str) : Nat → Scope → Expr → Option E
  | 0, _, _ => none
  | n + 1, sc, e => match e with
    | .Name x _ => if okName x = true then (if vis sc x = true then (ixOf N x).map .var else if glb sc x = true then (G.cns.lookup x).map .lit else none) else none
    | .Constant .none _ _ => some (.lit .non)
    | .Constant (.bool b) _ _ => some (.lit (.bl b))
    | .Constant (.int i) _ _ => some (.lit (.int i))
    | .Constant (.str s) _ _ => some (.lit (.str s))
    | .BinOp a op b _ => (binO op).bind fun o => (trE G N n sc a).bind fun ia => (trE G N n sc b).bind fun ib => some (.op o [ia, ib])
    | .UnaryOp .USub a _ => (trE G N n sc a).bind fun ia => some (.op .neg [ia])
    | .UnaryOp .Not a _ => if isIf a = true then none else (trE G N n sc a).bind fun ia => some (.op .no [ia])
    | .BoolOp _ [a] _ => if isIf a = true then none else trE G N n sc a
    | .BoolOp .And (a :: b :: r) p => if isIf a = true then none else (trE G N n sc a).bind fun ia => (trE G N n sc (.BoolOp .And (b :: r) p)).bind fun ib => some (.and ia ib)
    | .BoolOp .Or (a :: b :: r) p => if isIf a = true then none else (trE G N n sc a).bind fun ia => (trE G N n sc (.BoolOp .Or (b :: r) p)).bind fun ib => some (.or ia ib)
    | .IfExp c a b _ => if isIf c = true then none else (trE G N n sc c).bind fun ic => (trE G N n sc a).bind fun ia => (trE G N n sc b).bind fun ib => some (.ite ic ia ib)
    | .Compare a [.Is] [.Constant .none _ _] _ => (trE G N n sc a).bind fun ia => some (.op .isN [ia])
    | .Compare a [.IsNot] [.Constant .none _ _] _ => (trE G N n sc a).bind fun ia => some (.op .notN [ia])
    | .Compare a [op] [b] _ => if behindInMarks op b = true then none else (cmpO op).bind fun o => (trE G N n sc a).bind fun ia => (trE G N n sc b).bind fun ib => some (.op o [ia, ib])
    | .Compare a [op, op'] [b, c] _ => if lastMarks [op, op'] [b, c] = true then none else (cmpO op).bind fun o => (cmpO op').bind fun o' => (trE G N n sc a).bind fun ia => (trE G N n sc b).bind fun ib => (trE G N n sc c).bind fun ic => some (.chain o o' ia ib ic)
    | .Call (.Name x _) args kws _ => trCall (trE G N n sc) G sc x args kws
    | .Call (.Attribute (.Name x _) m apos) args [] cpos => trMeth (trE G N n sc) N sc x m args (apos.endLine == cpos.line)
    | .Subscript a (.Slice (some lo) (some hi) none _) _ => (trE G N n sc a).bind fun ia => (trE G N n sc lo).bind fun ib => (trE G N n sc hi).bind fun ic => some (.op (.sl true true) [ia, .op .idI [ib], .op .idI [ic]])
    | .Subscript a (.Slice (some lo) none none _) _ => (trE G N n sc a).bind fun ia => (trE G N n sc lo).bind fun ib => some (.op (.sl true false) [ia, .op .idI [ib]])
    | .Subscript a (.Slice none (some hi) none _) _ => (trE G N n sc a).bind fun ia => (trE G N n sc hi).bind fun ib => some (.op (.sl false true) [ia, .op .idI [ib]])
    | .Subscript a (.Slice none none (some (.UnaryOp .USub (.Constant (.int 1) _ _) _)) _) _ => (trE G N n sc a).bind fun ia => some (.op .rev [ia])
    | .Subscript a b _ => if isSlice b = true then none else (trE G N n sc a).bind fun ia => (trE G N n sc b).bind fun ib => some (.op .ix [ia, ib])
    | .List es _ => if es.any isStar = true then none else (trL (trE G N n sc) es).map .lst
    | .Tuple es _ _ => if es.any isStar = true then none else (trL (trE G N n sc) es).map .tup
    | .ListComp elt [⟨tg, it, ifs, 0⟩] scope _ =>
      if (blkC N sc scope (ownOf N scope)) = true then
        (trTn (tkC scope) N 20 tg).bind fun (t : Tn) => (trI (trE G N n sc) G sc tg it).bind fun (wi : Wk × List E) =>
          (match ifs with
            | [] => some []
            | [c] => if isIf c = true then none else (trE G N n (relS scope sc) c).map fun ic => [ic]
            | _ => none).bind fun (cs : List E) => (trE G N n (relS scope sc) elt).bind fun ie =>
            if (tns t).all (fun j => ((ownOf N scope).map (fun (p : Str × Nat) => p.2)).contains j) = true then some (.comp ie t wi.1 wi.2 cs ((ownOf N scope).map (fun (p : Str × Nat) => p.2))) else none
      else none
    | _ => none
end Ev

/-! Ev, part T3: the translation of expressions is sound. -/
namespace Ev
open PySem PySem.Spec PyProof.Rows L2
def isBo : Expr → Bool
  | .BoolOp .. => true
  | _ => false
structure POk (X : Cx) (C : Sem0) (e : Expr) (ir : E) : Prop where
  pe : PE X e (tE X.K C ir)
  pt : isIf e = false → PT X e (tT X.K C ir)
  pw : isBo e = true → PW X e (tT X.K C ir)
section
variable {X : Cx} {G : Gx} {N : List Str} {C : Sem0} {k : Nat} {sc : Scope} {e : Expr} {ir : E}
theorem POk.val (h : PE X e (tE X.K C ir)) (he : ∀ whole, isTrue e X.env whole = (do let v ← whole; standAt e.pos; holding [v] (truthy v))) (hb : isBo e = false) : POk X C e ir := ⟨h, fun _ => w_val h he, fun z => by rw [hb] at z; cases z⟩
theorem trL_ok {f : Expr → Option E} (hf : ∀ e ir, f e = some ir → PE X e (tE X.K C ir)) : ∀ {es : List Expr} {irs : List E}, trL f es = some irs → es.any isStar = false → PA X es (tA X.K C irs) ∧ irs.length = es.length
  | [], irs, h, _ => by cases h; exact ⟨pa_nil', rfl⟩
  | e :: es, irs, h, hs => by
    simp only [trL] at h
    obtain ⟨i, h1, h⟩ := bs h
    obtain ⟨is, h2, h⟩ := bs h
    cases h
    simp only [List.any_cons, Bool.or_eq_false_iff] at hs
    obtain ⟨a, b⟩ := trL_ok hf h2 hs.2
    exact ⟨pa_cons' (hf e i h1) a (hst_of (star_of hs.1) _), congrArg Nat.succ b⟩
theorem trL_kw {f : Expr → Option E} (hf : ∀ e ir, f e = some ir → PE X e (tE X.K C ir)) : ∀ {ks : List Keyword} {irs : List E}, trL f (ks.map (·.value)) = some irs → PK X ks (tA X.K C irs) ∧ irs.length = ks.length
  | [], irs, h => by cases h; exact ⟨pk_nil', rfl⟩
  | ⟨nm, e, p⟩ :: ks, irs, h => by
    simp only [List.map_cons, trL] at h
    obtain ⟨i, h1, h⟩ := bs h
    obtain ⟨is, h2, h⟩ := bs h
    cases h
    obtain ⟨a, b⟩ := trL_kw hf h2
    exact ⟨pk_cons' (hf e i h1) a, congrArg Nat.succ b⟩
theorem kwN_ok : ∀ {ks : List Keyword} {ns : List Str}, kwN ks = some ns → ks.map (·.arg) = ns.map some
  | [], ns, h => by cases h; rfl
  | k :: ks, ns, h => by
    simp only [kwN] at h
    obtain ⟨x, h1, h⟩ := bs h
    obtain ⟨r, h2, h⟩ := bs h
    cases h
    simp only [List.map_cons, h1, kwN_ok h2]
theorem pe_callGB {x : Str} {id : String} {p pos : Pos} {e : Expr} {es : List Expr} {t : TA} {r : List V → Hp → VK → Prop} (hc : CallR X (.builtin id) r) (hg : Gl X x) (hm : X.mg x = some (.builtin id)) (ha : PA X (e :: es) t) (hdb : (x == ("__debug__" : Str)) = false)
    (he : starEach (e :: es) X.env = (false, eval e X.env) :: starEach es X.env) (hpl : (backTo pos (starEach es X.env)).any (·.1) = false) : PE X (.Call (.Name x p) (e :: es) [] pos) (tCB r t) := by
  refine ⟨fun pins s σ H Q I h => ?_⟩
  refine wpAny_Call_Name_kw (ld_glob I hg hm ?_ hdb)
  exact PyProof.Rows.callWith_builtin1 (thn (ha.run pos pins s σ H _ I h) fun us s1 ⟨vs, H1, I1, r1, q1⟩ => hc pins s1 σ H1 vs us Q I1 r1 q1) he hpl
theorem gl_of (x : XOk X G N C k sc) {y : Str} (h : glb sc y = true) : Gl X y := by
  have := glb_ok h
  show X.env.scope.names.lookup y = _
  rw [x.es]; exact this
theorem bis_of (x : XOk X G N C k sc) {y : Str} (h : bisOk G sc y = true) : Gl X y ∧ X.mg y = none := by
  unfold bisOk at h
  rw [Bool.and_eq_true] at h
  exact ⟨gl_of x h.1, x.gk.bi y h.2⟩
theorem vis_of (x : XOk X G N C k sc) {y : Str} (h : vis sc y = true) : Vis X.env.scope y := by rw [x.es]; exact vis_ok h
theorem ix_of (x : XOk X G N C k sc) {y : Str} {i : Nat} (h : ixOf N y = some i) : X.N[i]? = some y := by rw [x.nn]; exact ixOf_ok h
theorem call_ok {f : Expr → Option E} (x : XOk X G N C k sc) (hf : ∀ e ir, f e = some ir → PE X e (tE X.K C ir)) {y : Str} {p pos : Pos} {args : List Expr} {kws : List Keyword} (h : trCall f G sc y args kws = some ir) : PE X (.Call (.Name y p) args kws pos) (tE X.K C ir) := by
  unfold trCall at h
  split at h
  · rename_i h0
    simp only [Bool.and_eq_true, Bool.not_eq_true'] at h0
    obtain ⟨⟨h1, h2⟩, h3⟩ := h0
    have hg := gl_of x h1
    have hd := (okName_ok h2).1
    split at h
    · rename_i g hfn
      obtain ⟨i, e1, h⟩ := bs h
      obtain ⟨ks, e2, h⟩ := bs h
      obtain ⟨irs, e3, h⟩ := bs h
      obtain ⟨kirs, e4, h⟩ := bs h
      split at h
      · rename_i hk
        rw [Bool.and_eq_true, decide_eq_true_eq] at hk
        cases h
        obtain ⟨a, fd, m1, m2, m3, m4, m5, m6, m7, m8, m9⟩ := x.gk.fn y g i hfn e1
        obtain ⟨pa, la⟩ := trL_ok hf e3 h3
        obtain ⟨pk, lk⟩ := trL_kw hf e4
        have kn := kwN_ok e2
        have lks : kirs.length = ks.length := by
          have := congrArg List.length kn
          rw [List.length_map, List.length_map] at this
          omega
        have kg := kg_of (n := args.length) m4 m5 m6 m7 m8 m9 hk.1
        exact e_call m3 x.room x.gd hg m1 m2 (by rw [la]; exact kg) lks pa pk (stars_of h3) kn hd (fun z => by subst z; exact List.length_eq_zero_iff.mp la) hk.2
      · cases h
    · split at h
      · cases h
      · rename_i a as
        split at h
        · rename_i hgc
          rw [Bool.and_eq_true] at hgc
          have := eq_of_beq hgc.1
          subst this
          split at h
          · obtain ⟨irs, e3, rfl⟩ := Option.map_eq_some_iff.mp h
            obtain ⟨pa, la⟩ := trL_ok hf e3 h3
            have st := stars_of h3
            exact PE.imp (pe_callGB b_gcd hg (x.gk.gc hgc.2) pa hd (hst_of (st a (List.mem_cons_self ..)) _) (any_of _ fun e he => st e (List.mem_cons_of_mem _ he))) fun _ _ _ => tB_of
          · cases h
        · split at h
          · rename_i hb
            have hm := x.gk.bi y hb
            split at h
            · rename_i hi
              have := eq_of_beq hi
              subst this
              simp only [List.any_cons, Bool.or_eq_false_iff] at h3
              split at h
              · rename_i z q
                obtain ⟨t, e1, h⟩ := bs h
                split at h
                · rename_i hz
                  obtain ⟨i, e2, rfl⟩ := Option.map_eq_some_iff.mp h
                  obtain ⟨z1, z2⟩ := bis_of x hz
                  have := tyOf_ok e1
                  subst this
                  exact e_isi1 (hf a i e2) (star_of h3.1) hg hm z1 z2
                · cases h
              · rename_i z q w q2 kk q3
                obtain ⟨t, e1, h⟩ := bs h
                obtain ⟨u, e1', h⟩ := bs h
                split at h
                · rename_i hz
                  rw [Bool.and_eq_true] at hz
                  obtain ⟨i, e2, rfl⟩ := Option.map_eq_some_iff.mp h
                  obtain ⟨z1, z2⟩ := bis_of x hz.1
                  obtain ⟨z3, z4⟩ := bis_of x hz.2
                  have := tyOf_ok e1
                  subst this
                  have := tyOf_ok e1'
                  subst this
                  exact e_isi2 (hf a i e2) (star_of h3.1) hg hm z1 z2 z3 z4
                · cases h
              · cases h
            · obtain ⟨r, e1, h⟩ := bs h
              obtain ⟨irs, e3, rfl⟩ := Option.map_eq_some_iff.mp h
              obtain ⟨pa, la⟩ := trL_ok hf e3 h3
              obtain ⟨c1, c2, c3, c4⟩ := bi_all x.calm x.gd x.u65 _ (biF_in e1)
              have st := stars_of h3
              obtain ⟨v, o⟩ := r
              cases v with
              | b id => exact e_biB c1 hg hm c2 pa st c3 c4
              | t id => exact e_biT c1 hg hm c2 pa st c3 c4
          · cases h
      · cases h
  · cases h
theorem muL_ok {m : Str} {n : Nat} {mt : Mt} (h : muL m n = some mt) : ∃ id, Slot "list" m id ∧ typeOf (.builtin id) = pure (.type "method_descriptor") ∧ MtR X id (rM X.K mt) ∧ (n = 0 ∨ n ≠ 0) := by
  unfold muL at h
  split at h
  · rename_i e; cases h; rw [Bool.and_eq_true] at e; rw [eq_of_beq e.1]; exact ⟨_, PySem.F.slot_list_append, PySem.F.type_list_append, m_append, Nat.eq_zero_or_pos n |>.imp id (fun z => by omega)⟩
  split at h
  · rename_i e; cases h; rw [Bool.and_eq_true] at e; rw [eq_of_beq e.1]; exact ⟨_, PySem.F.slot_list_extend, PySem.F.type_list_extend, m_extend, Nat.eq_zero_or_pos n |>.imp id (fun z => by omega)⟩
  split at h
  · rename_i e; cases h; rw [Bool.and_eq_true] at e; rw [eq_of_beq e.1]; exact ⟨_, PySem.F.slot_list_insert, PySem.F.type_list_insert, m_insert, Nat.eq_zero_or_pos n |>.imp id (fun z => by omega)⟩
  split at h
  · rename_i e; cases h; rw [Bool.and_eq_true] at e; rw [eq_of_beq e.1]; exact ⟨_, PySem.F.slot_list_pop, PySem.F.type_list_pop, m_pop, Nat.eq_zero_or_pos n |>.imp id (fun z => by omega)⟩
  split at h
  · rename_i e; cases h; rw [Bool.and_eq_true] at e; rw [eq_of_beq e.1]; exact ⟨_, PySem.F.slot_list_reverse, PySem.F.type_list_reverse, m_reverse, Nat.eq_zero_or_pos n |>.imp id (fun z => by omega)⟩
  cases h
theorem meL_ok {m : Str} {n : Nat} {me : Me} (hu : X.A.units + 65 < cLine) (h : meL m n = some me) : (∃ id, Slot "list" m id ∧ typeOf (.builtin id) = pure (.type "method_descriptor") ∧ MtR X id (rMe X.K me)) ∧ n = 1 := by
  unfold meL at h
  split at h
  · rename_i e; cases h; rw [Bool.and_eq_true] at e; rw [eq_of_beq e.1]; exact ⟨⟨_, PySem.F.slot_list_index, PySem.F.type_list_index, q_index hu⟩, eq_of_beq e.2⟩
  split at h
  · rename_i e; cases h; rw [Bool.and_eq_true] at e; rw [eq_of_beq e.1]; exact ⟨⟨_, PySem.F.slot_list_count, PySem.F.type_list_count, q_count⟩, eq_of_beq e.2⟩
  cases h
theorem meth_ok {f : Expr → Option E} (x : XOk X G N C k sc) (hf : ∀ e ir, f e = some ir → PE X e (tE X.K C ir)) {y m : Str} {p apos cpos : Pos} {args : List Expr} (h : trMeth f N sc y m args (apos.endLine == cpos.line) = some ir) : PE X (.Call (.Attribute (.Name y p) m apos) args [] cpos) (tE X.K C ir) := by
  unfold trMeth at h
  split at h
  · rename_i h0
    simp only [Bool.and_eq_true, Bool.not_eq_true', Nat.blt_eq] at h0
    obtain ⟨⟨⟨⟨h1, h2⟩, h3⟩, h4⟩, h5⟩ := h0
    obtain ⟨i, e1, h⟩ := bs h
    have hv := vis_of x h1
    have hi := ix_of x e1
    obtain ⟨d1, d2⟩ := okName_ok h2
    split at h
    · rename_i mt hmt
      obtain ⟨irs, e3, rfl⟩ := Option.map_eq_some_iff.mp h
      obtain ⟨pa, la⟩ := trL_ok hf e3 h4
      obtain ⟨id, s1, s2, s3, _⟩ := muL_ok (X := X) hmt
      cases args with
      | nil =>
        cases e3
        exact e_mut0 s1 s2 s3 hi hv d1 d2 h3
      | cons a as =>
        have : (a :: as).length < 10 := h5
        exact e_mut s1 s2 s3 hi hv d1 d2 pa (stars_of h4) (by simp at this; omega) h3
    · obtain ⟨me, hme, h⟩ := bs h
      obtain ⟨irs, e3, rfl⟩ := Option.map_eq_some_iff.mp h
      obtain ⟨pa, la⟩ := trL_ok hf e3 h4
      obtain ⟨⟨id, s1, s2, s3⟩, hl⟩ := meL_ok x.u65 hme
      cases args with
      | nil => cases hl
      | cons a as =>
        have : (a :: as).length < 10 := h5
        exact e_met s1 s2 s3 hi hv d1 d2 pa (stars_of h4) (by simp at this; omega) h3
  · cases h
theorem folded_of {it : Expr} (h : ∀ a b c, it ≠ .Set a b c) (env : Env) : ∀ x, foldedSetIterable it env x = pure x := fun x => by
  cases it <;> first | rfl | exact absurd rfl (h _ _ _)
theorem iter_ok {f : Expr → Option E} (x : XOk X G N C k sc) (hf : ∀ e ir, f e = some ir → PE X e (tE X.K C ir)) {tg it : Expr} {wi : Wk × List E} (h : trI f G sc tg it = some wi) : PI X tg it (tI X.K C wi.1 wi.2) ∧ ∀ a b c, it ≠ .Set a b c := by
  have seq : ∀ {it : Expr} {wi : Wk × List E}, (f it).map (fun i => (Wk.seq, [i])) = some wi → PI X tg it (tI X.K C wi.1 wi.2) := fun {it wi} h => by
    obtain ⟨i, e1, rfl⟩ := Option.map_eq_some_iff.mp h
    exact i_seq (hf _ i e1)
  unfold trI at h
  split at h
  · rename_i y p a pos
    refine ⟨?_, fun _ _ _ z => by cases z⟩
    split at h
    · rename_i c
      simp only [Bool.and_eq_true, Bool.not_eq_true'] at c
      obtain ⟨i, e1, rfl⟩ := Option.map_eq_some_iff.mp h
      have := eq_of_beq c.1.1
      subst this
      obtain ⟨b1, b2⟩ := bis_of x c.1.2
      have st := star_of c.2
      exact i_range1 b1 b2 (pa_cons' (hf a i e1) pa_nil' (hst_of st _)) st
    · split at h
      · rename_i c
        simp only [Bool.and_eq_true, Bool.not_eq_true'] at c
        obtain ⟨i, e1, rfl⟩ := Option.map_eq_some_iff.mp h
        have := eq_of_beq c.1.1.1
        subst this
        obtain ⟨b1, b2⟩ := bis_of x c.1.1.2
        have st := star_of c.1.2
        cases tg with
        | Tuple es kk tp => exact i_enum b1 b2 (pa_cons' (hf a i e1) pa_nil' (hst_of st _)) st
        | _ => cases c.2
      · exact seq h
  · rename_i y p a b pos
    refine ⟨?_, fun _ _ _ z => by cases z⟩
    split at h
    · rename_i c
      simp only [Bool.and_eq_true, Bool.not_eq_true'] at c
      obtain ⟨i, e1, h⟩ := bs h
      obtain ⟨j, e2, rfl⟩ := Option.map_eq_some_iff.mp h
      have := eq_of_beq c.1.1.1
      subst this
      obtain ⟨b1, b2⟩ := bis_of x c.1.1.2
      have st := star_of c.1.2
      have st2 := star_of c.2
      exact i_range2 b1 b2 (pa_cons' (hf a i e1) (pa_cons' (hf b j e2) pa_nil' (hst_of st2 _)) (hst_of st _)) st st2
    · split at h
      · rename_i c
        simp only [Bool.and_eq_true, Bool.not_eq_true'] at c
        obtain ⟨i, e1, h⟩ := bs h
        obtain ⟨j, e2, rfl⟩ := Option.map_eq_some_iff.mp h
        have := eq_of_beq c.1.1.1.1
        subst this
        obtain ⟨b1, b2⟩ := bis_of x c.1.1.1.2
        have st := star_of c.1.1.2
        have st2 := star_of c.1.2
        cases tg with
        | Tuple es kk tp => exact i_zip b1 b2 (pa_cons' (hf a i e1) (pa_cons' (hf b j e2) pa_nil' (hst_of st2 _)) (hst_of st _)) st st2
        | _ => cases c.2
      · split at h
        · rename_i c
          simp only [Bool.and_eq_true, Bool.not_eq_true'] at c
          obtain ⟨i, e1, h⟩ := bs h
          obtain ⟨j, e2, rfl⟩ := Option.map_eq_some_iff.mp h
          have := eq_of_beq c.1.1.1.1
          subst this
          obtain ⟨b1, b2⟩ := bis_of x c.1.1.1.2
          have st := star_of c.1.1.2
          have st2 := star_of c.1.2
          cases tg with
          | Tuple es kk tp => exact i_enum2 b1 b2 (pa_cons' (hf a i e1) (pa_cons' (hf b j e2) pa_nil' (hst_of st2 _)) (hst_of st _)) st st2
          | _ => cases c.2
        · exact seq h
  · cases h
  · rename_i hset
    exact ⟨seq h, hset⟩
mutual
theorem trTn_ok {tk : Str → Bool} (hc : X.calm = true) (hN : X.N.Nodup) (hn : X.N = N) (htk : ∀ y, tk y = true → Loc X.env.scope y ∧ (X.fn y = true ∨ X.env.scope.names.lookup y = some .local)) : ∀ (n : Nat) {e : Expr} {t : Tn}, trTn tk N n e = some t → PG X e (gD X.K t) ∧ ∀ y z, e ≠ .Starred y z
  | 0, e, t, h => by simp [trTn] at h
  | n + 1, e, t, h => by
    cases e with
    | Name y p =>
      simp only [trTn] at h
      split at h
      · rename_i c
        obtain ⟨i, e1, rfl⟩ := Option.map_eq_some_iff.mp h
        obtain ⟨h1, h2⟩ := htk y c
        exact ⟨gd_nm hN (by rw [hn]; exact ixOf_ok e1) h1 h2, fun _ _ z => by cases z⟩
      · cases h
    | Tuple es kk p =>
      simp only [trTn] at h
      obtain ⟨ts, e1, rfl⟩ := Option.map_eq_some_iff.mp h
      obtain ⟨h1, h2, h3⟩ := trTns_ok hc hN hn htk n e1
      exact ⟨gd_tup hc h1 h2 h3, fun _ _ z => by cases z⟩
    | _ => simp [trTn] at h
theorem trTns_ok {tk : Str → Bool} (hc : X.calm = true) (hN : X.N.Nodup) (hn : X.N = N) (htk : ∀ y, tk y = true → Loc X.env.scope y ∧ (X.fn y = true ∨ X.env.scope.names.lookup y = some .local)) : ∀ (n : Nat) {es : List Expr} {ts : List Tn}, trTns tk N n es = some ts → PGs X es (gDs X.K ts) ∧ (∀ e ∈ es, ∀ y z, e ≠ .Starred y z) ∧ es.length = ts.length
  | 0, es, t, h => by simp [trTns] at h
  | n + 1, [], t, h => by
    simp only [trTns] at h
    cases h
    exact ⟨gds_nil, fun e he => by simp at he, rfl⟩
  | n + 1, e :: es, t, h => by
    simp only [trTns] at h
    obtain ⟨a, e1, h⟩ := bs h
    obtain ⟨b, e2, h⟩ := bs h
    cases h
    obtain ⟨h1, h2⟩ := trTn_ok hc hN hn htk n e1
    obtain ⟨h3, h4, h5⟩ := trTns_ok hc hN hn htk n e2
    refine ⟨gds_cons h1 h3 h2, fun e' he => ?_, congrArg Nat.succ h5⟩
    rcases List.mem_cons.mp he with z | z
    · subst z; exact h2
    · exact h4 e' z
end
end
end Ev

/-! Ev, part T4: the translation of expressions is sound, by steps. -/
namespace Ev
open PySem PySem.Spec PyProof.Rows L2
section
variable {G : Gx} {N : List Str} {C : Sem0} {k : Nat}
theorem tkC_ok {X : Cx} {sc scope : Scope} (x : XOk X G N C k sc) (s : Shared) (H : Hp) (C' : Addr) (cl : List (Str × Addr)) (fp : List Addr) (y : Str) (h : tkC scope y = true) :
    Loc (X.blk s H scope (compEnvC scope cl C' X.env) fp).env.scope y ∧ ((X.blk s H scope (compEnvC scope cl C' X.env) fp).fn y = true ∨ (X.blk s H scope (compEnvC scope cl C' X.env) fp).env.scope.names.lookup y = some .local) := by
  have e : (X.blk s H scope (compEnvC scope cl C' X.env) fp).env.scope = relS scope X.env.scope := rfl
  rw [e]
  unfold tkC at h
  split at h
  · rename_i q
    have := lookup_relS_keep (sc := X.env.scope) (by decide) q
    exact ⟨.inl this, .inr this⟩
  · rename_i q
    have := lookup_relS_keep (sc := X.env.scope) (by decide) q
    refine ⟨.inr this, .inl ?_⟩
    show (scope.names.lookup y == some .cell) = true
    rw [q]; rfl
  · cases h
/-- what a comprehension's translation gives -/
theorem comp_parts {n : Nat} (IH : ∀ sc e ir, trE G N n sc e = some ir → ∀ X, XOk X G N C k sc → POk X C e ir) {X : Cx} {sc : Scope} (x : XOk X G N C k sc) {elt tg it : Expr} {ifs : List Expr} {scope : Scope} {p : Pos} {ir : E}
    (h : trE G N (n + 1) sc (.ListComp elt [⟨tg, it, ifs, 0⟩] scope p) = some ir) : ∃ ie t wk irs cs, ir = .comp ie t wk irs cs ((ownOf N scope).map (·.2)) ∧ PI X tg it (tI X.K C wk irs) ∧ BlkOk X.N X.env.scope scope (ownOf N scope) ∧
      (∀ (s : Shared) (H : Hp) (C' : Addr) (cl : List (Str × Addr)) (fp : List Addr), PG (X.blk s H scope (compEnvC scope cl C' X.env) fp) tg (gD X.K t)) ∧ (∀ (s : Shared) (H : Hp) (C' : Addr) (cl : List (Str × Addr)) (fp : List Addr), PTs (X.blk s H scope (compEnvC scope cl C' X.env) fp) ifs (tCd X.K C cs)) ∧
      (∀ (s : Shared) (H : Hp) (C' : Addr) (cl : List (Str × Addr)) (fp : List Addr), PE (X.blk s H scope (compEnvC scope cl C' X.env) fp) elt (tE X.K C ie)) ∧ (∀ z, foldedSetIterable it X.env z = pure z) ∧ (∀ j ∈ tns t, j ∈ (ownOf N scope).map (·.2)) := by
  simp only [trE] at h
  split at h
  · rename_i hb
    obtain ⟨t, e1, h⟩ := bs h
    obtain ⟨wi, e2, h⟩ := bs h
    obtain ⟨cs, e3, h⟩ := bs h
    obtain ⟨ie, e4, h⟩ := bs h
    split at h
    · rename_i hall
      cases h
      obtain ⟨pi, hset⟩ := iter_ok x (fun e ir h => (IH sc e ir h X x).pe) e2
      have bk : BlkOk X.N X.env.scope scope (ownOf N scope) := by rw [x.nn, x.es]; exact blkOk_by hb
      have xb := fun s H C' cl fp => x.blk bk.kind s H C' cl fp
      refine ⟨ie, t, wi.1, wi.2, cs, rfl, pi, bk, fun s H C' cl fp => ?_, fun s H C' cl fp => ?_, fun s H C' cl fp => (IH _ elt ie e4 _ (xb s H C' cl fp)).pe, folded_of hset X.env, fun j hj => ?_⟩
      · exact (trTn_ok (X := X.blk s H scope (compEnvC scope cl C' X.env) fp) x.calm (by show X.N.Nodup; rw [x.nn]; exact x.nd) x.nn (tkC_ok x s H C' cl fp) 20 e1).1
      · split at e3
        · cases e3; exact pts_nil'
        · split at e3
          · cases e3
          · rename_i hif
            obtain ⟨ic, e5, rfl⟩ := Option.map_eq_some_iff.mp e3
            exact pts_one' ((IH _ _ ic e5 _ (xb s H C' cl fp)).pt (by simpa using hif))
        · cases e3
      · have := List.all_eq_true.mp hall j hj
        simpa using this
    · cases h
  · cases h
theorem tr_ok : ∀ (n : Nat) (sc : Scope) (e : Expr) (ir : E), trE G N n sc e = some ir → ∀ X, XOk X G N C k sc → POk X C e ir
  | 0, sc, e, ir, h, X, x => by simp [trE] at h
  | n + 1, sc, e, ir, h, X, x => by
    have IH := tr_ok n
    have hf : ∀ e ir, trE G N n sc e = some ir → PE X e (tE X.K C ir) := fun e ir h => (IH sc e ir h X x).pe
    have hN : X.N.Nodup := by rw [x.nn]; exact x.nd
    unfold trE at h
    split at h
    · rename_i y p
      split at h
      · rename_i hk
        obtain ⟨d1, d2⟩ := okName_ok hk
        refine POk.val ?_ (fun _ => rfl) rfl
        split at h
        · rename_i hv
          obtain ⟨i, e1, rfl⟩ := Option.map_eq_some_iff.mp h
          exact e_var (ix_of x e1) (vis_of x hv) d1 d2
        · split at h
          · rename_i hg
            obtain ⟨d, e1, rfl⟩ := Option.map_eq_some_iff.mp h
            obtain ⟨u, v, c1, c2, c3⟩ := x.gk.cn y d e1
            exact e_lit (pe_glob (gl_of x hg) c1 c2 d1) c3
          · cases h
      · cases h
    · cases h; exact POk.val (e_lit pe_non fun _ => .non) (fun _ => rfl) rfl
    · cases h; exact POk.val (e_lit pe_bl fun _ => .bl _) (fun _ => rfl) rfl
    · cases h; exact POk.val (e_lit pe_int fun _ => .int _) (fun _ => rfl) rfl
    · cases h; exact POk.val (e_lit pe_str fun _ => .str _) (fun _ => rfl) rfl
    · obtain ⟨o, e1, h⟩ := bs h
      obtain ⟨ia, e2, h⟩ := bs h
      obtain ⟨ib, e3, h⟩ := bs h
      cases h
      exact POk.val (e_bin (binO_ok e1) (hf _ _ e2) (hf _ _ e3)) (fun _ => rfl) rfl
    · obtain ⟨ia, e2, h⟩ := bs h
      cases h
      exact POk.val (e_un u_neg (hf _ _ e2)) (fun _ => rfl) rfl
    · split at h
      · cases h
      · rename_i hif
        obtain ⟨ia, e2, h⟩ := bs h
        cases h
        have q := IH sc _ ia e2 X x
        exact ⟨e_not q.pe, fun _ => w_not (q.pt (by simpa using hif)), fun z => by cases z⟩
    · rename_i op a p
      split at h
      · cases h
      · rename_i hif
        have q := IH sc _ ir h X x
        refine ⟨pe_one q.pe, fun _ => ?_, fun _ => ?_⟩
        · cases op with
          | And => exact (pw_and1 (q.pt (by simpa using hif))).pt
          | Or => exact (pw_or1 (q.pt (by simpa using hif))).pt
        · cases op with
          | And => exact pw_and1 (q.pt (by simpa using hif))
          | Or => exact pw_or1 (q.pt (by simpa using hif))
    · split at h
      · cases h
      · rename_i hif
        obtain ⟨ia, e1, h⟩ := bs h
        obtain ⟨ib, e2, h⟩ := bs h
        cases h
        have q1 := IH sc _ ia e1 X x
        have q2 := IH sc _ ib e2 X x
        have w := w_and (q1.pt (by simpa using hif)) (q2.pw rfl)
        exact ⟨e_and q1.pe q2.pe, fun _ => w.pt, fun _ => w⟩
    · split at h
      · cases h
      · rename_i hif
        obtain ⟨ia, e1, h⟩ := bs h
        obtain ⟨ib, e2, h⟩ := bs h
        cases h
        have q1 := IH sc _ ia e1 X x
        have q2 := IH sc _ ib e2 X x
        have w := w_or (q1.pt (by simpa using hif)) (q2.pw rfl)
        exact ⟨e_or q1.pe q2.pe, fun _ => w.pt, fun _ => w⟩
    · split at h
      · cases h
      · rename_i hif
        obtain ⟨ic, e1, h⟩ := bs h
        obtain ⟨ia, e2, h⟩ := bs h
        obtain ⟨ib, e3, h⟩ := bs h
        cases h
        exact ⟨e_ite ((IH sc _ ic e1 X x).pt (by simpa using hif)) (hf _ _ e2) (hf _ _ e3), fun z => (by cases z), fun z => (by cases z)⟩
    · obtain ⟨ia, e1, h⟩ := bs h
      cases h
      exact ⟨e_isN (hf _ _ e1), fun _ => w_isN (hf _ _ e1), fun z => by cases z⟩
    · obtain ⟨ia, e1, h⟩ := bs h
      cases h
      exact ⟨e_notN (hf _ _ e1), fun _ => w_notN (hf _ _ e1), fun z => by cases z⟩
    · split at h
      · cases h
      · rename_i hm
        obtain ⟨o, e1, h⟩ := bs h
        obtain ⟨ia, e2, h⟩ := bs h
        obtain ⟨ib, e3, h⟩ := bs h
        cases h
        have hm' := Bool.eq_false_iff.mpr hm
        exact ⟨e_cmp (cmpO_ok x.u65 e1) (hf _ _ e2) (hf _ _ e3) hm', fun _ => w_cmp (cmpO_ok x.u65 e1) (hf _ _ e2) (hf _ _ e3) hm', fun z => by cases z⟩
    · split at h
      · cases h
      · rename_i hm
        obtain ⟨o, e1, h⟩ := bs h
        obtain ⟨o', e2, h⟩ := bs h
        obtain ⟨ia, e3, h⟩ := bs h
        obtain ⟨ib, e4, h⟩ := bs h
        obtain ⟨ic, e5, h⟩ := bs h
        cases h
        have hm' := Bool.eq_false_iff.mpr hm
        exact ⟨e_chain (cmpO_ok x.u65 e1) (cmpO_ok x.u65 e2) (hf _ _ e3) (hf _ _ e4) (hf _ _ e5) hm', fun _ => w_chain (cmpO_ok x.u65 e1) (cmpO_ok x.u65 e2) (hf _ _ e3) (hf _ _ e4) (hf _ _ e5) hm', fun z => by cases z⟩
    · exact POk.val (call_ok x hf h) (fun _ => rfl) rfl
    · exact POk.val (meth_ok x hf h) (fun _ => rfl) rfl
    · obtain ⟨ia, e1, h⟩ := bs h
      obtain ⟨ib, e2, h⟩ := bs h
      obtain ⟨ic, e3, h⟩ := bs h
      cases h
      exact POk.val (e_slTT (hf _ _ e1) (hf _ _ e2) (hf _ _ e3)) (fun _ => rfl) rfl
    · obtain ⟨ia, e1, h⟩ := bs h
      obtain ⟨ib, e2, h⟩ := bs h
      cases h
      exact POk.val (e_slTF (hf _ _ e1) (hf _ _ e2)) (fun _ => rfl) rfl
    · obtain ⟨ia, e1, h⟩ := bs h
      obtain ⟨ib, e2, h⟩ := bs h
      cases h
      exact POk.val (e_slFT (hf _ _ e1) (hf _ _ e2)) (fun _ => rfl) rfl
    · obtain ⟨ia, e1, h⟩ := bs h
      cases h
      exact POk.val (e_rev (hf _ _ e1)) (fun _ => rfl) rfl
    · split at h
      · cases h
      · rename_i hs
        obtain ⟨ia, e1, h⟩ := bs h
        obtain ⟨ib, e2, h⟩ := bs h
        cases h
        exact POk.val (e_ix (hf _ _ e1) (hf _ _ e2) (plainIx_of (Bool.eq_false_iff.mpr hs))) (fun _ => rfl) rfl
    · split at h
      · cases h
      · rename_i hs
        obtain ⟨irs, e1, rfl⟩ := Option.map_eq_some_iff.mp h
        exact POk.val (e_lst (trL_ok hf e1 (Bool.eq_false_iff.mpr hs)).1) (fun _ => rfl) rfl
    · split at h
      · cases h
      · rename_i hs
        obtain ⟨irs, e1, rfl⟩ := Option.map_eq_some_iff.mp h
        exact POk.val (e_tup (trL_ok hf e1 (Bool.eq_false_iff.mpr hs)).1) (fun _ => rfl) rfl
    · rename_i elt tg it ifs scope p
      have h' : trE G N (n + 1) sc (.ListComp elt [⟨tg, it, ifs, 0⟩] scope p) = some ir := by unfold trE; exact h
      obtain ⟨ie, t, wk, irs, cs, rfl, p1, p2, p3, p4, p5, p6, p7⟩ := comp_parts IH x h'
      exact POk.val (e_comp x.cl x.calm hN p1 p2 p3 p4 p5 p6 p7) (fun _ => rfl) rfl
    · cases h
end
end Ev

/-! Ev, part U: the translation of statements. -/
namespace Ev
open PySem PySem.Spec PyProof.Rows L2
def isComp : Expr → Bool
  | .ListComp .. => true
  | .SetComp .. => true
  | .DictComp .. => true
  | _ => false
theorem sw_none {e : Expr} (h : isComp e = false) (l : Nat) (env : Env) : swapsWith e none l env = pure false := by cases e <;> first | rfl | cases h
theorem sw_name {e : Expr} (h : isComp e = false) (x : Str) (p : Pos) (l : Nat) (env : Env) : swapsWith e (some (.Name x p)) l env = pure false := by cases e <;> first | rfl | cases h
theorem sole_tup (e : Expr) (es : List Expr) (k : Nat) (p : Pos) (l : Nat) (env : Env) : swapsWithSole [.Tuple es k p] e l env = pure false := by cases e <;> rfl
theorem sole_sub (e a b : Expr) (p : Pos) (l : Nat) (env : Env) : swapsWithSole [.Subscript a b p] e l env = pure false := by cases e <;> rfl
/-- whether the store is made inside the comprehension -/
def swB (sc : Scope) (x : Str) (p : Pos) (scope : Scope) (vp : Pos) : Bool := (sc.names.lookup x == some .local) && p.line == vp.line && !(scope.names.any fun (n, k) => n == x && (k == .local || k == .cell))
theorem sw_comp {sc : Scope} {env : Env} (hs : env.scope = sc) (hk : sc.kind = .function) (elt : Expr) (gs : List Comprehension) (scope : Scope) (vp : Pos) (x : Str) (p : Pos) (l : Nat) :
    swapsWith (.ListComp elt gs scope vp) (some (.Name x p)) l env = pure (swB sc x p scope vp) := by
  subst hs
  have hb : env.blockKind = .function := by unfold Env.blockKind; rw [hk]; rfl
  unfold swapsWith
  simp only [hb]
  rfl
theorem assign_sub {o ke : Expr} {pos : Pos} {env : Env} (h : isSlice ke = false) (v : Value) : assign (.Subscript o ke pos) env v = (do
      let ov ← holding [v] (eval o env)
      let iv ← holding [v, ov] (eval ke env)
      standAt pos
      holding [v, ov, iv] (setItem ov iv v)
      release [v, ov, iv] []) := by cases ke <;> first | rfl | cases h
def trTg (f : Expr → Option E) (tk : Str → Bool) (N : List Str) (sc : Scope) : Expr → Option Tg
  | .Name x _ => if tk x = true then (ixOf N x).map fun i => .n (.nm i) else none
  | .Tuple es k p => (trTn tk N 20 (.Tuple es k p)).map .n
  | .Subscript (.Name x _) ke _ => if (vis sc x && okName x && !isSlice ke) = true then (ixOf N x).bind fun i => (f ke).map fun k => .sb i k else none
  | _ => none
def trTgs (f : Expr → Option E) (tk : Str → Bool) (N : List Str) (sc : Scope) : List Expr → Option (List Tg)
  | [] => some []
  | e :: es => (trTg f tk N sc e).bind fun g => (trTgs f tk N sc es).bind fun gs => some (g :: gs)
def trSL (f : Stmt → Option S) : List Stmt → Option (List S)
  | [] => some []
  | s :: ss => (f s).bind fun i => (trSL f ss).bind fun is => some (i :: is)
def augO : Operator → Option Op
  | .Add => some .add
  | .Sub => some .sub
  | .FloorDiv => some .fdiv
  | _ => none
def trUn (f : Expr → Option E) (N : List Str) (sc : Scope) (es : List Expr) (k : Nat) (tp : Pos) (v : Expr) : Option S :=
  if swS sc [.Tuple es k tp] v = some none then
    match trTns (tkC sc) N 20 es with
    | some ts => (f v).map fun i => .asg (.tp ts) i
    | none => if es.any isStar = true then none else (trTgs f (tkC sc) N sc es).bind fun gs => (f v).map fun i => .unp gs i
  else none
def trPar (f : Expr → Option E) (N : List Str) (sc : Scope) (es : List Expr) (k : Nat) (tp : Pos) (vs : List Expr) (k2 : Nat) (p2 : Pos) : Option S :=
  match swS sc [.Tuple es k tp] (.Tuple vs k2 p2) with
  | some none => if (es.any isStar || vs.any isStar || !(Nat.ble vs.length 1000)) = true then none else (trTgs f (tkC sc) N sc es).bind fun gs => (trL f vs).map fun irs => .par gs irs
  | some (some ns) => match es, vs with
    | [.Name x _, .Name y _], [a, b] =>
      if (decide (ns = [x, y]) && sc.names.lookup x == some .local && sc.names.lookup y == some .local && !isStar a && !isStar b) = true then
        (ixOf N x).bind fun i => (ixOf N y).bind fun j => if i ≠ j then (f a).bind fun ia => (f b).map fun ib => .par [.n (.nm i), .n (.nm j)] [ia, ib] else none
      else none
    | [.Name x _, .Name y _, .Name z _], [a, b, c] =>
      if (decide (ns = [x, y, z]) && sc.names.lookup x == some .local && sc.names.lookup y == some .local && sc.names.lookup z == some .local && !isStar a && !isStar b && !isStar c) = true then
        (ixOf N x).bind fun i => (ixOf N y).bind fun j => (ixOf N z).bind fun l => if i ≠ j ∧ i ≠ l ∧ j ≠ l then (f a).bind fun ia => (f b).bind fun ib => (f c).map fun ic => .par [.n (.nm i), .n (.nm j), .n (.nm l)] [ia, ib, ic] else none
      else none
    | _, _ => none
  | none => none
/-- whether a test puts a list of these names into a list that it makes -/
def lends (ns : List Str) : Nat → Expr → Bool
  | 0, _ => false
  | n + 1, e => match e with
    | .UnaryOp _ a _ => lends ns n a
    | .BoolOp _ es _ => es.any (lends ns n)
    | .Compare a _ es _ => lends ns n a || es.any (lends ns n)
    | .Call _ es _ _ => es.any (lends ns n)
    | .List es _ => es.any fun e => (match e with
      | .Name x _ => ns.contains x
      | _ => lends ns n e)
    | _ => false
def trS (G : Gx) (N : List Str) : Nat → Scope → Stmt → Option S
  | 0, _, _ => none
  | n + 1, sc, st => match st with
    | .Expr (.Constant (.str _) _ _) _ => some .pass
    | .Expr e _ => if isComp e = true then none else (trE G N 60 sc e).map .expr
    | .Assign [.Name x p] v _ => if tkC sc x = true then (ixOf N x).bind fun i => (trE G N 60 sc v).map fun e => .asg (.nm i) e else none
    | .Assign [.Tuple es k tp] (.Tuple vs k2 p2) _ => trPar (trE G N 60 sc) N sc es k tp vs k2 p2
    | .Assign [.Tuple es k tp] v _ => trUn (trE G N 60 sc) N sc es k tp v
    | .Assign [.Subscript (.Name x _) ke _] v _ => if (vis sc x && okName x && !isSlice ke) = true then (ixOf N x).bind fun i => (trE G N 60 sc ke).bind fun k => (trE G N 60 sc v).map fun e => .set i k e else none
    | .AugAssign (.Name x _) op v _ => if tkC sc x = true then (ixOf N x).bind fun i => (augO op).bind fun o => (trE G N 60 sc v).map fun e => .aug i o e else none
    | .If c a b _ => if isIf c = true then none else (trE G N 60 sc c).bind fun ic => (trSL (trS G N n sc) a).bind fun ia => (trSL (trS G N n sc) b).map fun ib => if (G.lnd != [] && lends G.lnd 20 c) = true then .ifl ic ia ib else .ifs ic ia ib
    | .While c body [] _ => if isIf c = true then none else (trE G N 60 sc c).bind fun ic => (trSL (trS G N n sc) body).map fun ib => .whl ic ib
    | .For tg it body [] _ => (trTn (tkC sc) N 20 tg).bind fun t => (trI (trE G N 60 sc) G sc tg it).bind fun wi => (trSL (trS G N n sc) body).map fun ib => .for t wi.1 wi.2 ib
    | .Return (some e) _ => (trE G N 60 sc e).map .ret
    | .Return none _ => some .retN
    | .Raise _ _ _ => some .never
    | .Pass _ => some .pass
    | .Break _ => some .brk
    | .Continue _ => some .cont
    | _ => none
structure SOk (X : Cx) (G : Gx) (N : List Str) (C : Sem0) (k : Nat) (sc : Scope) : Prop where
  x : XOk X G N C k sc
  fn : ∀ y, X.fn y = true
  po : PassesOwn (model X.prog X.w) X.A X.env X.xe
section
variable {G : Gx} {N : List Str} {C : Sem0} {k : Nat} {X : Cx} {sc : Scope} {fuel : Nat}
theorem tkS_ok (s : SOk X G N C k sc) {y : Str} (h : tkC sc y = true) : Loc X.env.scope y ∧ (X.fn y = true ∨ X.env.scope.names.lookup y = some .local) := by
  refine ⟨?_, .inl (s.fn y)⟩
  rw [s.x.es]
  unfold tkC at h
  split at h
  · exact .inl (by assumption)
  · exact .inr (by assumption)
  · cases h
theorem trTg_ok (s : SOk X G N C k sc) {f : Expr → Option E} (hf : ∀ e ir, f e = some ir → PE X e (tE X.K C ir)) {e : Expr} {g : Tg} (h : trTg f (tkC sc) N sc e = some g) : PG X e (gT X.K C g) ∧ ∀ y z, e ≠ .Starred y z := by
  have hN : X.N.Nodup := by rw [s.x.nn]; exact s.x.nd
  unfold trTg at h
  split at h
  · rename_i y p
    split at h
    · rename_i hk
      obtain ⟨i, e1, rfl⟩ := Option.map_eq_some_iff.mp h
      obtain ⟨h1, h2⟩ := tkS_ok s hk
      exact ⟨g_nm hN (ix_of s.x e1) h1 h2, fun _ _ z => by cases z⟩
    · cases h
  · obtain ⟨t, e1, rfl⟩ := Option.map_eq_some_iff.mp h
    have ht : ∃ ts, t = .tp ts := by
      simp only [trTn] at e1
      obtain ⟨ts, _, rfl⟩ := Option.map_eq_some_iff.mp e1
      exact ⟨ts, rfl⟩
    obtain ⟨ts, rfl⟩ := ht
    exact ⟨g_tp (trTn_ok s.x.calm hN s.x.nn (fun y => tkS_ok s) 20 e1).1, fun _ _ z => by cases z⟩
  · split at h
    · rename_i hk
      simp only [Bool.and_eq_true, Bool.not_eq_true'] at hk
      obtain ⟨i, e1, h⟩ := bs h
      obtain ⟨kk, e2, rfl⟩ := Option.map_eq_some_iff.mp h
      obtain ⟨d1, d2⟩ := okName_ok hk.1.2
      exact ⟨g_sb (ix_of s.x e1) (vis_of s.x hk.1.1) d1 d2 (hf _ _ e2) (assign_sub hk.2), fun _ _ z => by cases z⟩
    · cases h
  · cases h
theorem trTgs_ok (s : SOk X G N C k sc) {f : Expr → Option E} (hf : ∀ e ir, f e = some ir → PE X e (tE X.K C ir)) : ∀ {es : List Expr} {gs : List Tg}, trTgs f (tkC sc) N sc es = some gs → PGs X es (gTs X.K C gs) ∧ (∀ e ∈ es, ∀ y z, e ≠ .Starred y z) ∧ es.length = gs.length
  | [], gs, h => by
    simp only [trTgs] at h; cases h
    exact ⟨gs_nil, fun e he => by simp at he, rfl⟩
  | e :: es, gs, h => by
    simp only [trTgs] at h
    obtain ⟨g, e1, h⟩ := bs h
    obtain ⟨r, e2, h⟩ := bs h
    cases h
    obtain ⟨h1, h2⟩ := trTg_ok s hf e1
    obtain ⟨h3, h4, h5⟩ := trTgs_ok s hf e2
    refine ⟨gs_cons s.x.cl h1 h3 h2, fun e' he => ?_, congrArg Nat.succ h5⟩
    rcases List.mem_cons.mp he with z | z
    · subst z; exact h2
    · exact h4 e' z
theorem un_ok (s : SOk X G N C k sc) {f : Expr → Option E} (hf : ∀ e ir, f e = some ir → PE X e (tE X.K C ir)) {es : List Expr} {kk : Nat} {tp pos : Pos} {v : Expr} {ir : S} (h : trUn f N sc es kk tp v = some ir) : PS X (.Assign [.Tuple es kk tp] v pos) (tS X.K C fuel ir) := by
  have hN : X.N.Nodup := by rw [s.x.nn]; exact s.x.nd
  unfold trUn at h
  split at h
  · rename_i hw
    have hw' := swS_ok s.x.es s.x.kd hw
    split at h
    · rename_i ts e1
      obtain ⟨i, e2, rfl⟩ := Option.map_eq_some_iff.mp h
      obtain ⟨h1, h2, h3⟩ := trTns_ok s.x.calm hN s.x.nn (fun y => tkS_ok s) 20 e1
      exact s_asgT s.x.cl (hf _ _ e2) (gd_tup s.x.calm h1 h2 h3) (sole_tup ..) hw' (fun _ _ z => by cases z)
    · split at h
      · cases h
      · rename_i hst
        obtain ⟨gs, e1, h⟩ := bs h
        obtain ⟨i, e2, rfl⟩ := Option.map_eq_some_iff.mp h
        obtain ⟨h1, h2, h3⟩ := trTgs_ok s hf e1
        exact s_unp s.x.cl s.x.calm (hf _ _ e2) h1 h2 h3 (sole_tup ..) hw'
  · cases h
theorem par_ok (s : SOk X G N C k sc) {f : Expr → Option E} (hf : ∀ e ir, f e = some ir → PE X e (tE X.K C ir)) {es vs : List Expr} {kk k2 : Nat} {tp p2 pos : Pos} {ir : S} (h : trPar f N sc es kk tp vs k2 p2 = some ir) : PS X (.Assign [.Tuple es kk tp] (.Tuple vs k2 p2) pos) (tS X.K C fuel ir) := by
  have hN : X.N.Nodup := by rw [s.x.nn]; exact s.x.nd
  unfold trPar at h
  split at h
  · rename_i hw
    have hw' := swS_ok s.x.es s.x.kd hw
    split at h
    · cases h
    · rename_i c
      simp only [Bool.or_eq_true, Bool.not_eq_true', not_or] at c
      obtain ⟨gs, e1, h⟩ := bs h
      obtain ⟨irs, e2, rfl⟩ := Option.map_eq_some_iff.mp h
      obtain ⟨h1, h2, h3⟩ := trTgs_ok s hf e1
      obtain ⟨pa, la⟩ := trL_ok hf e2 (by simpa using c.1.2)
      have hl : vs.length ≤ 1000 := by
        have := c.2
        simp only [Bool.not_eq_false] at this
        exact Nat.le_of_ble_eq_true this
      exact s_par s.x.cl s.x.calm pa h1 h2 h3 (by omega) (sole_tup ..) hw'
  · rename_i ns hw
    have hw' := swS_ok s.x.es s.x.kd hw
    split at h
    · rename_i x px y py a b
      split at h
      · rename_i c
        simp only [Bool.and_eq_true, decide_eq_true_eq, Bool.not_eq_true', beq_iff_eq] at c
        obtain ⟨i, e1, h⟩ := bs h
        obtain ⟨j, e2, h⟩ := bs h
        split at h
        · rename_i hij
          obtain ⟨ia, e3, h⟩ := bs h
          obtain ⟨ib, e4, rfl⟩ := Option.map_eq_some_iff.mp h
          obtain ⟨⟨⟨⟨c1, c2⟩, c3⟩, c4⟩, c5⟩ := c
          subst c1
          have st := star_of c4
          have st2 := star_of c5
          exact s_par2 s.x.cl s.x.calm hN (ix_of s.x e1) (ix_of s.x e2) hij (by rw [s.x.es]; exact c2) (by rw [s.x.es]; exact c3) (pa_cons' (hf _ _ e3) (pa_cons' (hf _ _ e4) pa_nil' (hst_of st2 _)) (hst_of st _)) hw' (sole_tup ..)
        · cases h
      · cases h
    · rename_i x px y py z pz a b c0
      split at h
      · rename_i c
        simp only [Bool.and_eq_true, decide_eq_true_eq, Bool.not_eq_true', beq_iff_eq] at c
        obtain ⟨i, e1, h⟩ := bs h
        obtain ⟨j, e2, h⟩ := bs h
        obtain ⟨l, e2', h⟩ := bs h
        split at h
        · rename_i hij
          obtain ⟨ia, e3, h⟩ := bs h
          obtain ⟨ib, e4, h⟩ := bs h
          obtain ⟨ic, e5, rfl⟩ := Option.map_eq_some_iff.mp h
          obtain ⟨⟨⟨⟨⟨⟨c1, c2⟩, c3⟩, c3'⟩, c4⟩, c5⟩, c6⟩ := c
          subst c1
          have st := star_of c4
          have st2 := star_of c5
          have st3 := star_of c6
          exact s_par3 s.x.cl s.x.calm hN (ix_of s.x e1) (ix_of s.x e2) (ix_of s.x e2') hij.1 hij.2.1 hij.2.2 (by rw [s.x.es]; exact c2) (by rw [s.x.es]; exact c3) (by rw [s.x.es]; exact c3') (pa_cons' (hf _ _ e3) (pa_cons' (hf _ _ e4) (pa_cons' (hf _ _ e5) pa_nil' (hst_of st3 _)) (hst_of st2 _)) (hst_of st _)) hw' (sole_tup ..)
        · cases h
      · cases h
    · cases h
  · cases h
theorem trSL_ok (s : SOk X G N C k sc) {f : Stmt → Option S} (hf : ∀ st ir, f st = some ir → PS X st (tS X.K C fuel ir)) : ∀ {ss : List Stmt} {irs : List S}, trSL f ss = some irs → PSs X ss (tSs X.K C fuel irs)
  | [], irs, h => by cases h; exact s_nil
  | st :: ss, irs, h => by
    simp only [trSL] at h
    obtain ⟨i, e1, h⟩ := bs h
    obtain ⟨r, e2, h⟩ := bs h
    cases h
    exact s_cons s.x.cl (hf _ _ e1) (trSL_ok s hf e2)
theorem augO_ok {op : Operator} {o : Op} (h : augO op = some o) : PIp X op (rAug X.K o) := by
  cases op <;> cases h
  · exact ipa_add
  · exact ipa_sub
  · exact ipa_fdiv
theorem comp_form {n : Nat} {elt : Expr} {gs : List Comprehension} {scope : Scope} {p : Pos} {ir : E} (h : trE G N (n + 1) sc (.ListComp elt gs scope p) = some ir) : ∃ tg it ifs, gs = [⟨tg, it, ifs, 0⟩] := by
  generalize he : Expr.ListComp elt gs scope p = e at h
  unfold trE at h
  split at h <;> first
    | (cases he; exact ⟨_, _, _, rfl⟩)
    | (cases he; done)
    | cases h
theorem comp_only {n : Nat} {e : Expr} {ir : E} (h : trE G N (n + 1) sc e = some ir) (hc : isComp e = true) : ∃ elt gs scope p, e = .ListComp elt gs scope p := by
  cases e <;> first
    | exact ⟨_, _, _, _, rfl⟩
    | (cases hc; done)
    | (simp [trE] at h; done)
theorem trS_ok (s : SOk X G N C k sc) : ∀ (n : Nat) (st : Stmt) (ir : S), trS G N n sc st = some ir → PS X st (tS X.K C fuel ir)
  | 0, st, ir, h => by simp [trS] at h
  | n + 1, st, ir, h => by
    have IH := trS_ok s n
    have hN : X.N.Nodup := by rw [s.x.nn]; exact s.x.nd
    have ok : ∀ e ir, trE G N 60 sc e = some ir → POk X C e ir := fun e ir h => tr_ok 60 sc e ir h X s.x
    have hf : ∀ e ir, trE G N 60 sc e = some ir → PE X e (tE X.K C ir) := fun e ir h => (ok e ir h).pe
    unfold trS at h
    split at h
    · cases h; exact s_doc
    · split at h
      · cases h
      · rename_i hc
        obtain ⟨i, e1, rfl⟩ := Option.map_eq_some_iff.mp h
        exact s_expr s.x.cl (hf _ _ e1) (sw_none (Bool.eq_false_iff.mpr hc) _ _)
    · rename_i x p v pos
      split at h
      · rename_i hk
        obtain ⟨i, e1, h⟩ := bs h
        obtain ⟨ie, e2, rfl⟩ := Option.map_eq_some_iff.mp h
        obtain ⟨h1, h2⟩ := tkS_ok s hk
        by_cases hcm : isComp v = true
        · obtain ⟨elt, gs, scope, vp, rfl⟩ := comp_only e2 hcm
          obtain ⟨tg, it, ifs, rfl⟩ := comp_form e2
          have hsw := sw_comp s.x.es s.x.kd elt [⟨tg, it, ifs, 0⟩] scope vp x p pos.line
          cases hb : swB sc x p scope vp with
          | false =>
            rw [hb] at hsw
            exact s_set s.x.cl hN (ix_of s.x e1) h1 (hf _ _ e2) hsw h2
          | true =>
            rw [hb] at hsw
            have hl : sc.names.lookup x = some .local := by
              unfold swB at hb
              simp only [Bool.and_eq_true, beq_iff_eq] at hb
              exact hb.1.1
            obtain ⟨ie', t, wk, irs, cs, rfl, p1, p2, p3, p4, p5, p6, p7⟩ := comp_parts (n := 59) (fun sc e ir h X x => tr_ok 59 sc e ir h X x) s.x e2
            exact s_setLc s.x.cl s.x.calm hN (ix_of s.x e1) (by rw [s.x.es]; exact hl) hsw p1 p2 p3 p4 p5 p6 p7
        · exact s_set s.x.cl hN (ix_of s.x e1) h1 (hf _ _ e2) (sw_name (Bool.eq_false_iff.mpr hcm) ..) h2
      · cases h
    · exact par_ok s hf h
    · exact un_ok s hf h
    · split at h
      · rename_i hk
        simp only [Bool.and_eq_true, Bool.not_eq_true'] at hk
        obtain ⟨i, e1, h⟩ := bs h
        obtain ⟨kk, e2, h⟩ := bs h
        obtain ⟨ie, e3, rfl⟩ := Option.map_eq_some_iff.mp h
        obtain ⟨d1, d2⟩ := okName_ok hk.1.2
        exact s_sub s.x.cl (hf _ _ e3) (g_sb (ix_of s.x e1) (vis_of s.x hk.1.1) d1 d2 (hf _ _ e2) (assign_sub hk.2)) (sole_sub ..) (by rfl) (fun _ _ z => by cases z)
      · cases h
    · split at h
      · rename_i hk
        obtain ⟨i, e1, h⟩ := bs h
        obtain ⟨o, e2, h⟩ := bs h
        obtain ⟨ie, e3, rfl⟩ := Option.map_eq_some_iff.mp h
        obtain ⟨h1, h2⟩ := tkS_ok s hk
        exact s_aug s.x.cl hN (ix_of s.x e1) h1 (hf _ _ e3) (augO_ok e2) h2
      · cases h
    · split at h
      · cases h
      · rename_i hif
        obtain ⟨ic, e1, h⟩ := bs h
        obtain ⟨ia, e2, h⟩ := bs h
        obtain ⟨ib, e3, rfl⟩ := Option.map_eq_some_iff.mp h
        split
        · exact s_ifl s.x.cl ((ok _ _ e1).pt (Bool.eq_false_iff.mpr hif)) (trSL_ok s IH e2) (trSL_ok s IH e3)
        · exact s_if s.x.cl ((ok _ _ e1).pt (Bool.eq_false_iff.mpr hif)) (trSL_ok s IH e2) (trSL_ok s IH e3)
    · split at h
      · cases h
      · rename_i hif
        obtain ⟨ic, e1, h⟩ := bs h
        obtain ⟨ia, e2, rfl⟩ := Option.map_eq_some_iff.mp h
        exact s_while s.x.cl s.po ((ok _ _ e1).pt (Bool.eq_false_iff.mpr hif)) (trSL_ok s IH e2)
    · obtain ⟨t, e1, h⟩ := bs h
      obtain ⟨wi, e2, h⟩ := bs h
      obtain ⟨ib, e3, rfl⟩ := Option.map_eq_some_iff.mp h
      obtain ⟨pi, hset⟩ := iter_ok s.x hf e2
      exact s_for s.x.cl s.po s.x.calm pi (trTn_ok s.x.calm hN s.x.nn (fun y => tkS_ok s) 20 e1).1 (trSL_ok s IH e3) (folded_of hset _)
    · obtain ⟨ie, e1, rfl⟩ := Option.map_eq_some_iff.mp h
      exact s_ret s.x.cl (hf _ _ e1)
    · cases h; exact s_retN
    · cases h; exact s_never
    · cases h; exact s_pass
    · cases h; exact s_brk
    · cases h; exact s_cont
    · cases h
end
end Ev

/-! Ev, part V: defs, tables, the law's end. -/
namespace Ev
open PySem PySem.Spec PyProof.Rows L2
section
variable {P : Program} {w : World} {K : PySem.W.Frag} {mg : Str → Option Value} {base : Heap}
theorem start_own {N : List Str} {vs : List V} {args : List Sl} {n : Nat} {i : Nat} {xs : List D} {m : Nat} (h : (args ++ List.replicate n .un)[i]? = some (.own xs m)) : args[i]? = some (.own xs m) := by
  by_cases hi : i < args.length
  · rwa [List.getElem?_append_left hi] at h
  · rw [List.getElem?_append_right (by omega), List.getElem?_replicate] at h
    split at h <;> cases h
theorem start_ow {N : List Str} {vs : List V} {args : List Sl} {n : Nat} (hl : vs.length = args.length) {a : Addr} : Ow (start N vs) (args ++ List.replicate n .un) a ↔ Ow (vs.map some) args a := by
  constructor
  · rintro ⟨i, xs, m, h1, h2⟩
    have h3 := start_own (N := N) (vs := vs) h1
    have hi := (List.getElem?_eq_some_iff.mp h3).1
    refine ⟨i, xs, m, h3, ?_⟩
    unfold L2.start at h2
    rwa [List.getElem?_append_left (by rw [List.length_map]; omega)] at h2
  · rintro ⟨i, xs, m, h1, h2⟩
    have hi := (List.getElem?_eq_some_iff.mp h1).1
    refine ⟨i, xs, m, by rw [List.getElem?_append_left hi]; exact h1, ?_⟩
    unfold L2.start
    rw [List.getElem?_append_left (by rw [List.length_map]; omega)]; exact h2
theorem start_get {N : List Str} {vs : List V} {i : Nat} (hi : i < vs.length) : (start N vs)[i]? = (vs.map some)[i]? := by
  unfold L2.start
  rw [List.getElem?_append_left (by rw [List.length_map]; exact hi)]
theorem start_sr {F H : Hp} {N : List Str} {vs : List V} {args : List Sl} (s : SR K F H (vs.map some) args) (hl : vs.length = args.length) (hN : vs.length ≤ N.length) : SR K F H (start N vs) (args ++ List.replicate (N.length - args.length) .un) := by
  refine ⟨s.fh, ?_, fun i x e => ?_, fun i xs m e => ?_, fun i j xs m ys n p e1 e2 e3 e4 => ?_⟩
  · unfold L2.start
    simp only [List.length_append, List.length_map, List.length_replicate]
    omega
  · have hi : i < args.length := by
      by_cases hi : i < args.length
      · exact hi
      · rw [List.getElem?_append_right (by omega), List.getElem?_replicate] at e
        split at e <;> cases e
    rw [List.getElem?_append_left hi] at e
    rw [start_get (by omega)]
    exact s.dd i x e
  · have h3 := start_own (N := N) (vs := vs) e
    have hi := (List.getElem?_eq_some_iff.mp h3).1
    rw [start_get (by omega)]
    exact s.ow i xs m h3
  · have h1 := start_own (N := N) (vs := vs) e1
    have h2 := start_own (N := N) (vs := vs) e2
    have hi := (List.getElem?_eq_some_iff.mp h1).1
    have hj := (List.getElem?_eq_some_iff.mp h2).1
    rw [start_get (by omega)] at e3 e4
    exact s.inj i j xs m ys n p h1 h2 e3 e4
/-- a frame's end is the call's -/
theorem cs_of {F H F' H' : Hp} {N : List Str} {vs : List V} {args : List Sl} {σ' : L2.St} {env' : En} {v : V} {t : T} {np : Nat} (hl : vs.length = args.length) (hn : args.length = np) (S : Ss K F H (start N vs) (args ++ List.replicate (N.length - args.length) .un) F' H' σ' env')
    (kp : Kp (args ++ List.replicate (N.length - args.length) .un) (start N vs) σ') (l : Lk (args ++ List.replicate (N.length - args.length) .un) env') (r : RR K H (start N vs) (args ++ List.replicate (N.length - args.length) .un) F' H' v t) : Cs K vs F H args F' H' (env'.take np) v t := by
  refine ⟨S.sr.fh, S.fe, fun a o h n => S.keep a o h fun z => n ((start_ow hl).mp z), fun a h f n => S.newf a h f fun z => n ((start_ow hl).mp z), S.dom, fun i xs m p e1 e2 => ?_, r.d, fun xs e => ?_⟩
  · have hi := (List.getElem?_eq_some_iff.mp e1).1
    have e3 : (args ++ List.replicate (N.length - args.length) .un)[i]? = some (.own xs (m + 1)) := by rw [List.getElem?_append_left hi]; exact e1
    obtain ⟨ys, g1, _⟩ := l i xs m e3
    have g2 := kp i xs m e3
    rw [start_get (by omega), map_some.mpr e2] at g2
    obtain ⟨q, ws, h1, h2, h3, h4⟩ := S.sr.ow i _ _ g1
    rw [g2] at h1; cases h1
    exact ⟨ys, ws, m, by rw [List.getElem?_take_of_lt (by omega)]; exact g1, h2, h3, h4⟩
  · obtain ⟨p, ws, h1, h2, h3, h4, h5⟩ := r.f xs e
    refine ⟨p, ws, h1, h2, h3, h4, h5.imp id fun ⟨i, ys, g1, g2⟩ => ?_⟩
    have g3 := start_own (N := N) (vs := vs) g1
    have hi := (List.getElem?_eq_some_iff.mp g3).1
    rw [start_get (by omega)] at g2
    exact ⟨i, ys, g3, map_some.mp g2⟩
/-- THE RULE: a def that is translated computes what its table's entry computes -/
theorem fn_ok {tb : List Fi} {G : Gx} {k f : Nat} {fa : Addr} {nm ql : Str} {prm : Arguments} {bd : List Stmt} {sc : Scope} {dV kV dc pm cdv ct oc : Value} {an od : Option Addr} {sl : Array (Option Value)} {N ps : List Str} {ib : List S}
    (hK : K.lookup fa = some ⟨oc, od, .func (PySem.W.fnOf nm ql prm bd sc dV kV dc pm an cdv ct), sl⟩) (hc : PySem.W.codeIn K cdv ql = true) (hS : FnScope N ps sc)
    (htb : tb[f]? = some ⟨ps.length, N.length, ib⟩) (htr : trSL (trS G N 60 sc) bd = some ib) (gk : GOk P w K mg base (callAt tb k) k G) :
    FnG P w K mg base (k + 1) fa (PySem.W.fnOf nm ql prm bd sc dV kV dc pm an cdv ct) ps (sF K (callAt tb (k + 1)) f) := by
  have unf : ∀ {args : List Sl} {t : T} {outs : List Sl}, callAt tb (k + 1) f args = some (t, outs) → args.length = ps.length ∧ ∃ fl, exB (callAt tb k) Fuel ib (args ++ List.replicate (N.length - ps.length) .un) = some fl ∧ ((∃ e, fl = .nx e ∧ t = .d .non ∧ outs = e.take ps.length) ∨ ∃ e, fl = .rt t e ∧ outs = e.take ps.length) := fun {args t outs} h => by
    simp only [callAt] at h
    rw [htb] at h
    simp only [Option.bind_some, runF] at h
    split at h
    · rename_i hn
      obtain ⟨fl, h1, h⟩ := bs h
      refine ⟨hn, fl, h1, ?_⟩
      cases fl with
      | nx e => cases h; exact .inl ⟨e, rfl, rfl, rfl⟩
      | rt t e => cases h; exact .inr ⟨e, rfl, rfl⟩
      | bk e => cases h
      | ct e => cases h
    · cases h
  have lenV : ∀ {F H : Hp} {vs : List V} {args : List Sl}, SR K F H (vs.map some) args → vs.length = args.length := fun s => by
    have := s.len
    rwa [List.length_map] at this
  refine FnG.mk' hK hc hS (fun vs H Q ⟨F, args, t, outs, s, e, q⟩ => (lenV s).trans (unf e).1) fun A outer s H vs Q hr hgd ⟨F, args, t, outs, sr, e, q⟩ => ?_
  have hpl : ps.length ≤ N.length := by
    have := congrArg List.length hS.pre
    rw [List.length_take] at this; omega
  have x : XOk (cxOf CXN P w K mg base N ql sc fa cdv A outer s H EXN) G N (callAt tb k) k sc := ⟨rfl, rfl, hS.nd, hr, hgd, rfl, hS.kind, gk, callAt_lk tb k⟩
  have so : SOk (cxOf CXN P w K mg base N ql sc fa cdv A outer s H EXN) G N (callAt tb k) k sc := ⟨x, fun _ => rfl, passes_of (K := fun _ _ => False) (E₁ := fun _ _ => False) rfl⟩
  refine ⟨_, trSL_ok (fuel := Fuel) so (trS_ok so 60) htr, ?_⟩
  obtain ⟨hn, fl, h1, h2⟩ := unf e
  have hv := lenV sr
  have l := (exB_ll (callAt_lk tb k) Fuel ib h1).1
  refine ⟨F, args ++ List.replicate (N.length - args.length) Sl.un, fl, start_sr (N := N) sr hv (by omega), by rw [hn]; exact h1, ?_⟩
  rw [← hn] at l
  rcases h2 with ⟨e', rfl, rfl, rfl⟩ | ⟨e', rfl, rfl⟩
  · exact fun F' H' σ' S kp => q F' H' _ (cs_of hv hn S kp l ⟨fun x h => by cases h; exact .non, fun xs h => by cases h⟩)
  · exact fun F' H' σ' v S kp r => q F' H' v (cs_of hv hn S kp l r)
end
end Ev

/-! Ev, part W: tables of defs, facts behind the top, the law's end. -/
namespace Ev
open PySem PySem.Spec PyProof.Rows L2
/-! ### tables -/
def defOk (d : He.DefD) (i : FIn) (N : List Str) : Bool :=
  (match d.scope.kind with | .function => true | _ => false) && !d.scope.isCoroutine && !d.scope.isGenerator && decide N.Nodup && decide (N.take i.ps.length = i.ps) &&
    i.ps.all (fun x => match d.scope.names.lookup x with | some .local => true | some .cell => true | _ => false) && d.scope.names.all (fun y => match y.2 with | .free => false | _ => true) &&
    d.params.posonlyargs.isEmpty && decide (d.params.args.map (·.arg) = i.ps) && d.params.vararg.isNone && d.params.kwonlyargs.isEmpty && d.params.kwarg.isNone && d.dfl.isEmpty
def trDef (G : Gx) (d : He.DefD) (i : FIn) (N : List Str) : Option Fi := if defOk d i N = true then (trSL (trS G N 60 d.scope) d.body).map fun b => ⟨i.ps.length, N.length, b⟩ else none
def trDefs (G : Gx) : List He.DefD → List FIn → List (List Str) → Option (List Fi)
  | [], [], [] => some []
  | d :: ds, i :: is, N :: Ns => (trDef G d i N).bind fun f => (trDefs G ds is Ns).bind fun fs => some (f :: fs)
  | _, _, _ => none
theorem trDefs_get {G : Gx} : ∀ {ds : List He.DefD} {is : List FIn} {Ns : List (List Str)} {tb : List Fi}, trDefs G ds is Ns = some tb → ∀ (f : Nat) (i : FIn), is[f]? = some i → ∃ d N fi, ds[f]? = some d ∧ tb[f]? = some fi ∧ trDef G d i N = some fi
  | [], [], [], tb, h, f, i, e => by simp at e
  | d :: ds, i :: is, N :: Ns, tb, h, f, j, e => by
    simp only [trDefs] at h
    obtain ⟨a, h1, h⟩ := bs h
    obtain ⟨b, h2, h⟩ := bs h
    cases h
    cases f with
    | zero => simp at e; subst e; exact ⟨d, N, a, rfl, rfl, h1⟩
    | succ f => simpa using trDefs_get h2 f j (by simpa using e)
  | [], [], _ :: _, tb, h, f, i, e => by simp [trDefs] at h
  | [], _ :: _, _, tb, h, f, i, e => by simp [trDefs] at h
  | _ :: _, [], _, tb, h, f, i, e => by simp [trDefs] at h
  | _ :: _, _ :: _, [], tb, h, f, i, e => by simp [trDefs] at h
theorem defOk_ok {d : He.DefD} {i : FIn} {N : List Str} (h : defOk d i N = true) : FnScope N i.ps d.scope ∧ d.params.posonlyargs = [] ∧ d.params.args.map (·.arg) = i.ps ∧ d.params.vararg = none ∧ d.params.kwonlyargs = [] ∧ d.params.kwarg = none ∧ d.dfl = [] := by
  unfold defOk at h
  simp only [Bool.and_eq_true, Bool.not_eq_true', decide_eq_true_eq, List.all_eq_true, List.isEmpty_iff, Option.isNone_iff_eq_none] at h
  obtain ⟨⟨⟨⟨⟨⟨⟨⟨⟨⟨⟨⟨h1, h2⟩, h3⟩, h4⟩, h5⟩, h6⟩, h7⟩, h8⟩, h9⟩, h10⟩, h11⟩, h12⟩, h13⟩ := h
  refine ⟨⟨?_, h2, h3, h4, h5, fun x hx => ?_, fun y hy e => ?_⟩, h8, h9, h10, h11, h12, h13⟩
  · split at h1
    · assumption
    · cases h1
  · have := h6 x hx
    split at this
    · exact .inl (by assumption)
    · exact .inr (by assumption)
    · cases this
  · have := h7 y hy
    rw [e] at this; cases this
/-! ### facts of constants -/
def valOk : D → Value → Bool
  | .int i, .int j _ => decide (j = i)
  | .str s, .str t _ => decide (t = s)
  | .bl b, .bool c => b == c
  | .non, .none => true
  | _, _ => false
def valsOk : List D → List Value → Bool
  | [], [] => true
  | d :: ds, v :: vs => valOk d v && valsOk ds vs
  | _, _ => false
def dV0 : D → V
  | .int i => .int i
  | .str s => .str s
  | .bl b => .bl b
  | _ => .non
theorem valOk_ok {d : D} {u : Value} (h : valOk d u = true) : RelV (dV0 d) u ∧ ∀ (K : PySem.W.Frag) (F : Hp), Dv K F (dV0 d) d := by
  match d, u, h with
  | .int i, .int j t, h =>
    have : j = i := of_decide_eq_true h
    subst this
    exact ⟨⟨t, rfl⟩, fun _ _ => .int _⟩
  | .str i, .str j t, h =>
    have : j = i := of_decide_eq_true h
    subst this
    exact ⟨⟨t, rfl⟩, fun _ _ => .str _⟩
  | .bl b, .bool c, h =>
    have : b = c := by simpa [valOk] using h
    subst this
    exact ⟨rfl, fun _ _ => .bl _⟩
  | .non, .none, h => exact ⟨rfl, fun _ _ => .non⟩
theorem valsOk_ok : ∀ {ds : List D} {us : List Value}, valsOk ds us = true → Vals (ds.map dV0) us ∧ ∀ (K : PySem.W.Frag) (F : Hp), Dvs K F (ds.map dV0) ds
  | [], [], _ => ⟨.nil, fun _ _ => .nil⟩
  | [], _ :: _, h => by cases h
  | _ :: _, [], h => by cases h
  | d :: ds, u :: us, h => by
    simp only [valsOk, Bool.and_eq_true] at h
    obtain ⟨a, b⟩ := valOk_ok h.1
    obtain ⟨c, e⟩ := valsOk_ok h.2
    exact ⟨.cons a c, fun K F => .cons (b K F) (e K F)⟩
def cnOk (K : PySem.W.Frag) (p : Str × D) : Bool := match p.2, PySem.W.nsIn K mainGlobals p.1 with
  | .tup ds, some (some (.ref a)) => (match K.lookup a with
    | some ⟨.type "tuple", _, .seq its _, _⟩ => Nat.ble its.size 1000 && valsOk ds its.toList
    | _ => false)
  | d, some (some u) => valOk d u
  | _, _ => false
def gcOk (K : PySem.W.Frag) (g : Bool) : Bool := !g || (match PySem.W.nsIn K mainGlobals "gcd" with
  | some (some (.builtin id)) => decide (id = "math.gcd")
  | _ => false)
section
variable {K : PySem.W.Frag} {h : Heap} {mg : Str → Option Value}
theorem gcOk_ok (X : K.In h) (G : h.Ns mainGlobals mg) (c : gcOk K true = true) : mg "gcd" = some (.builtin "math.gcd") := by
  unfold gcOk at c
  simp only [Bool.not_true, Bool.false_or] at c
  split at c
  · rename_i id e
    rw [decide_eq_true_eq] at c
    subst c
    exact PySem.W.mg_of X G e
  · cases c
theorem cnOk_ok (X : K.In h) (G : h.Ns mainGlobals mg) {x : Str} {d : D} (c : cnOk K (x, d) = true) : ∃ u v, mg x = some u ∧ RelV v u ∧ ∀ F, Dv K F v d := by
  unfold cnOk at c
  split at c
  · rename_i ds a e1 e2
    have e1' : d = .tup ds := e1
    subst e1'
    split at c
    · rename_i dd its n sl e
      rw [Bool.and_eq_true] at c
      obtain ⟨c1, c2⟩ := valsOk_ok c.2
      refine ⟨_, .ref a, PySem.W.mg_of X G e2, rfl, fun F => .tup (.inr ⟨_, its, n, e, rfl, rfl, ?_, c1⟩) (c2 K F)⟩
      have := Nat.le_of_ble_eq_true c.1
      have h2 : (1000 : Nat) ≤ sizeLine := by rw [line_eq]; decide
      omega
    · cases c
  · rename_i d' u e2 _
    obtain ⟨c1, c2⟩ := valOk_ok c
    exact ⟨u, _, PySem.W.mg_of X G (by assumption), c1, fun F => c2 K F⟩
  · cases c
end
/-- the facts behind the top: the defs, the names, gcd, the constants -/
def hookG (n : Nat) (fa : List He.Fa) (fn : List He.DefD) (g : Bool) (cs : List (Str × D)) : PySem.W.Hook where
  α := He.AlD × Bool
  obs := fun s => (He.obsD fa fn (He.frG s.heap.get? (He.asD s.heap.get? n)), gcOk (He.frG s.heap.get? (He.asD s.heap.get? n)) g && cs.all (cnOk (He.frG s.heap.get? (He.asD s.heap.get? n))))
  val := fun _ => (He.valD fn, true)
  says := fun _ h => ∃ K : PySem.W.Frag, K.In h ∧ He.SaysD fa fn K ∧ gcOk K g = true ∧ cs.all (cnOk K) = true
  of := fun _ _ e => by
    obtain ⟨e1, e2⟩ := Prod.mk.inj e
    rw [Bool.and_eq_true] at e2
    exact ⟨_, He.frG_in, e1, e2.1, e2.2⟩
  keeps := fun _ _ _ ⟨K, hK, c⟩ k => ⟨K, PySem.W.Frag.In.keeps hK k, c⟩
def obG (n : Nat) (fa : List He.Fa) (fn : List He.DefD) (gc : Bool) (cs : List (Str × D)) (g : Addr → Option Obj) : He.AlD × Bool := (He.obsD fa fn (He.frG g (He.asD g n)), gcOk (He.frG g (He.asD g n)) gc && cs.all (cnOk (He.frG g (He.asD g n))))
theorem obG_eq {n : Nat} {fa : List He.Fa} {fn : List He.DefD} {gc : Bool} {cs : List (Str × D)} {g : Addr → Option Obj} {s : Shared} (h : ∀ a, g a = s.heap.get? a) : obG n fa fn gc cs g = (hookG n fa fn gc cs).obs s := by
  have e : g = s.heap.get? := funext h
  subst e
  rfl
/-! ### all defs keep their promises -/
def fnsOk (fa : List He.Fa) (fn : List He.DefD) (l : List (Str × Nat)) : Bool := l.all fun p => (match fn[p.2]? with
  | some d => decide (d.at_ = (p.1, none)) && d.kwd.isEmpty
  | none => false) && (fa.any fun f => match f with
  | .glo x => x == p.1
  | _ => false)
def bisAll (fa : List He.Fa) (l : List Str) : Bool := l.all fun x => fa.any fun f => match f with
  | .free y => y == x
  | _ => false
theorem fa_glo {fa : List He.Fa} {x : Str} (h : (fa.any fun f => match f with | .glo y => y == x | _ => false) = true) : ∃ j : Nat, fa[j]? = some (.glo x) := by
  obtain ⟨f, h1, h2⟩ := List.any_eq_true.mp h
  cases f <;> first | (cases h2; done) | skip
  rename_i y
  have : y = x := eq_of_beq h2
  subst this
  exact List.mem_iff_getElem?.mp h1
theorem fa_free {fa : List He.Fa} {x : Str} (h : (fa.any fun f => match f with | .free y => y == x | _ => false) = true) : ∃ j : Nat, fa[j]? = some (.free x) := by
  obtain ⟨f, h1, h2⟩ := List.any_eq_true.mp h
  cases f <;> first | (cases h2; done) | skip
  rename_i y
  have : y = x := eq_of_beq h2
  subst this
  exact List.mem_iff_getElem?.mp h1
theorem lookup_all {α : Type} {p : Str × α → Bool} : ∀ {l : List (Str × α)} {x : Str} {a : α}, l.all p = true → l.lookup x = some a → p (x, a) = true
  | (y, b) :: l, x, a, h, e => by
    simp only [List.all_cons, Bool.and_eq_true] at h
    rw [List.lookup_cons] at e
    split at e
    · rename_i hx
      cases e
      rw [eq_of_beq hx]; exact h.1
    · exact lookup_all h.2 e
theorem FnG.zero {P : Program} {w : World} {K : PySem.W.Frag} {mg : Str → Option Value} {base : Heap} {tb : List Fi} {f : Nat} {fa : Addr} {fd : FuncData} {ps : List Str} : FnG P w K mg base 0 fa fd ps (sF K (callAt tb 0) f) :=
  ⟨fun vs H Q ⟨_, _, _, _, _, e, _⟩ => (by cases e), fun A outer s H args us vs Q _ _ _ _ _ ⟨_, _, _, _, _, e, _⟩ => by cases e⟩
theorem gok_all {P : Program} {w : World} {K : PySem.W.Frag} {h : Heap} {mg : Str → Option Value} {base : Heap} {fa : List He.Fa} {fn : List He.DefD} {G : Gx} {Ns : List (List Str)} {tb : List Fi} (X : K.In h) (hns : h.Ns mainGlobals mg) (c : He.SaysD fa fn K) (hg : gcOk K G.gcd = true) (hcs : G.cns.all (cnOk K) = true)
    (htb : trDefs G fn G.inf Ns = some tb) (h1 : fnsOk fa fn G.fns = true) (h2 : bisAll fa G.bis = true) : ∀ k, GOk P w K mg base (callAt tb k) k G := by
  intro k
  induction k with
  | zero =>
    refine ⟨fun x f i e1 e2 => ?_, fun x e => ?_, fun e => gcOk_ok X hns (e ▸ hg), fun x d e => cnOk_ok X hns (lookup_all hcs e)⟩
    · have q := lookup_all h1 e1
      rw [Bool.and_eq_true] at q
      obtain ⟨j, hj⟩ := fa_glo q.2
      obtain ⟨d, N, fi, g1, g2, g3⟩ := trDefs_get htb f i e2
      have q1 := q.1
      simp only [g1, Bool.and_eq_true, decide_eq_true_eq, List.isEmpty_iff] at q1
      unfold trDef at g3
      split at g3
      · rename_i ok
        obtain ⟨s1, s2, s3, s4, s5, s6, s7⟩ := defOk_ok ok
        obtain ⟨fd, FD⟩ := c.def_ f g1
        have gm := He.glo_ok X hns (c.fact j hj)
        have ea : He.fAd K d.at_ = He.ga K x := by rw [q1.1]; rfl
        refine ⟨He.fAd K d.at_, fd, by rw [ea]; exact gm, FD.kp, FnG.zero, ?_⟩
        obtain ⟨oc, od, dV, kV, doc, pm, an, cdv, ct, osl, rfl, lk, hcd, hD, _⟩ := FD.ex
        refine ⟨s2, s3, s4, s5, s6, ?_⟩
        rcases hD with ⟨_, z⟩ | ⟨z, _⟩
        · exact z
        · exact absurd (by rw [He.DefD.dvs, s7]; rfl) z
      · cases g3
    · have q := List.all_eq_true.mp h2 x (by simpa using e)
      obtain ⟨j, hj⟩ := fa_free q
      exact He.free_ok X hns (c.fact j hj)
  | succ k ih =>
    refine ⟨fun x f i e1 e2 => ?_, ih.bi, ih.gc, ih.cn⟩
    have q := lookup_all h1 e1
    rw [Bool.and_eq_true] at q
    obtain ⟨j, hj⟩ := fa_glo q.2
    obtain ⟨d, N, fi, g1, g2, g3⟩ := trDefs_get htb f i e2
    have q1 := q.1
    simp only [g1, Bool.and_eq_true, decide_eq_true_eq, List.isEmpty_iff] at q1
    unfold trDef at g3
    split at g3
    · rename_i ok
      obtain ⟨s1, s2, s3, s4, s5, s6, s7⟩ := defOk_ok ok
      obtain ⟨ib, g4, g5⟩ := Option.map_eq_some_iff.mp g3
      obtain ⟨fd, FD⟩ := c.def_ f g1
      have gm := He.glo_ok X hns (c.fact j hj)
      have ea : He.fAd K d.at_ = He.ga K x := by rw [q1.1]; rfl
      obtain ⟨oc, od, dV, kV, doc, pm, an, cdv, ct, osl, rfl, lk, hcd, hD, _⟩ := FD.ex
      refine ⟨He.fAd K d.at_, _, by rw [ea]; exact gm, FD.kp, fn_ok lk hcd s1 (by rw [g5]; exact g2) g4 ih, s2, s3, s4, s5, s6, ?_⟩
      rcases hD with ⟨_, z⟩ | ⟨z, _⟩
      · exact z
      · exact absurd (by rw [He.DefD.dvs, s7]; rfl) z
    · cases g3
/-! ### the law's end -/
section
variable {P : Program} {w : World} {K : PySem.W.Frag} {mg mb : Str → Option Value} {k : Nat} {fa p : Addr} {fd : FuncData} {x : Str} {sp : List V → Hp → VK → Prop} {st : Shared} {us : List Value} {ns : List Int}
/-- the law's def called with the script at p, from an abstract heap H that knows of nothing else -/
theorem law_from (kin : K.In st.heap) (n1 : st.heap.Ns mainGlobals mg) (n2 : st.heap.Ns builtinsNs mb) (n3 : ∀ x : Str, x ≠ "__name__" → mb x = bootBuiltins x) (n4 : st.heap.NoLimit) (n5 : st.gens = #[])
    (sc : st.heap.get? p = some { cls := .type "list", data := .seq us.toArray }) (room : Room k callerA) (F : ∀ base : Heap, K.In base → base.Ns mainGlobals mg → FnG P w K mg base k fa fd [x] sp)
    (bd : ∀ (s : Shared) (u : Value), BindsTo s fd ⟨[u], []⟩ [(x, u)]) {H : Hp} (only : Only H) (want : sp [.ref p] H (fun v _ => v = .bl true)) (hok : HOk P w H st.heap) (one : ∀ b, H b ≠ none → b = p) (out : H p ≠ none → K.lookup p = none) :
    codeAny (model P w) callerA (.call (.ref fa) ⟨[.ref p], []⟩) (fun r s' => r = .ok (.ret (.bool true)) ∧ OldK st.heap s'.heap ∧ s'.os = st.os ∧ AllBare s'.gens) st := by
  have stays : ∀ {b : Addr} {o : Obj}, st.heap.get? b = some o → (b = p → H p = none) → (hidT st.heap H).get? b = some o := fun {b o} e z => hidT_get e (by
    cases q : H b with
    | none => rfl
    | some u =>
      have := one b (by rw [q]; exact fun z => by cases z)
      subst this
      rw [z rfl] at q; cases q)
  have names : ∀ {b : Addr} {m : Str → Option Value}, st.heap.Ns b m → (hidT st.heap H).Ns b m := by
    rintro b m ⟨o, es, ep, e, d, r⟩
    refine ⟨o, es, ep, stays e fun z => ?_, d, r⟩
    subst z
    rw [sc] at e; cases e
    exact nomatch (show Data.seq us.toArray _ = Data.dict es ep from d)
  have kin2 : K.In (hidT st.heap H) := fun b o e => stays (kin b o e) fun z => by
    subst z
    cases q : H b with
    | none => rfl
    | some u => rw [out (by rw [q]; exact fun z => by cases z)] at e; cases e
  have md : Mod K mg (hidT st.heap H) := by
    obtain ⟨mc, c1, c2⟩ := n4
    exact ⟨kin2, names n1, ⟨mb, names n2, n3⟩, ⟨mc, names c1, c2⟩⟩
  have ev : Env0 P w K mg (hidT st.heap H) callerA [] st H := by
    refine ⟨rfl, md, fun _ _ e => of_hidT e, Nat.le_of_eq (hidT_size _ _), trivial, fun b hb => ?_, hok, .of_eq n5⟩
    exact absurd (show b ∈ ([] : List Addr) from hb) (by simp)
  have go := (F _ kin2 (names n1)).run callerA [] st H ⟨[.ref p], []⟩ [.ref p] [.ref p] _ room rfl ev (bd st (.ref p)) (.cons rfl .nil) want
  refine codeAny_mono go ?_
  intro r s' z
  match r, z with
  | .ok (.ret u), ⟨v, H', eos, ebare, eun, eok, rv, ev⟩ =>
    have hv : v = .bl true := ev
    subst hv
    have hu : u = Value.bool true := rv
    subst hu
    refine ⟨rfl, OldK.of_keep fun b o e => ?_, eos, ebare⟩
    rcases only b with z | ⟨ob, xs, z⟩
    · refine eun.keep b o e z ?_ (by simp)
      exact fun q => absurd (show b ∈ ([] : List Addr) from q) (by simp)
    · have g1 := (hok b _ z).1
      have g2 := (eok b _ (eun.frzs b ob _ z)).1
      rw [e] at g1; cases g1
      exact g2
theorem law_callG (kin : K.In st.heap) (n1 : st.heap.Ns mainGlobals mg) (n2 : st.heap.Ns builtinsNs mb) (n3 : ∀ x : Str, x ≠ "__name__" → mb x = bootBuiltins x) (n4 : st.heap.NoLimit) (n5 : st.gens = #[])
    (sc : st.heap.get? p = some { cls := .type "list", data := .seq us.toArray }) (isI : IntsAre us ns) (few : ns.length ≤ sizeLine) (room : Room k callerA) (F : ∀ base : Heap, K.In base → base.Ns mainGlobals mg → FnG P w K mg base k fa fd [x] sp)
    (bd : ∀ (s : Shared) (u : Value), BindsTo s fd ⟨[u], []⟩ [(x, u)]) (want : ∀ H : Hp, Only H → SqL K H p (ns.map V.int) → sp [.ref p] H (fun v _ => v = .bl true)) :
    codeAny (model P w) callerA (.call (.ref fa) ⟨[.ref p], []⟩) (fun r s' => r = .ok (.ret (.bool true)) ∧ OldK st.heap s'.heap ∧ s'.os = st.os ∧ AllBare s'.gens) st := by
  have vi := vals_ints isI
  have li := isI.length
  cases q : K.lookup p with
  | some o =>
    have e := kin p o q
    rw [sc] at e; cases e
    have ro : Only (fun _ => none) := fun _ => .inl rfl
    have rs : SqL K (fun _ => none) p (ns.map V.int) := .inr ⟨_, us.toArray, _, q, rfl, rfl, rfl, by rw [List.size_toArray, li]; exact few, by simpa using vi⟩
    exact law_from kin n1 n2 n3 n4 n5 sc room F bd ro (want _ ro rs) (fun b u z => nomatch (show (none : Option HO) = some u from z)) (fun b z => absurd rfl z) (fun z => absurd rfl z)
  | none =>
    let Hs : Hp := fun b => if b = p then some (.frz { cls := .type "list", data := .seq us.toArray } (.lst (ns.map V.int))) else none
    have at1 : Hs p = some (.frz { cls := .type "list", data := .seq us.toArray } (.lst (ns.map V.int))) := if_pos rfl
    have at2 : ∀ b, b ≠ p → Hs b = none := fun b z => if_neg z
    have ro : Only Hs := fun b => by
      by_cases z : b = p
      · subst z; exact .inr ⟨_, _, at1⟩
      · exact .inl (at2 b z)
    have ok : HOk P w Hs st.heap := fun b u z => by
      by_cases y : b = p
      · subst y
        rw [at1] at z; cases z
        exact ⟨sc, by rw [List.length_map]; exact few, us, _, vi, sc⟩
      · rw [at2 b y] at z; cases z
    exact law_from kin n1 n2 n3 n4 n5 sc room F bd ro (want Hs ro (.inl (.inr ⟨_, at1⟩))) ok (fun b z => by
      by_cases y : b = p
      · exact y
      · exact absurd (at2 b y) z) fun _ => q
end
/-- the goal behind the head -/
theorem walk_G {l : PySem.W.OpenLaw} {n k : Nat} {q : Program} {loose : List Str} {XP : (Str → Option Value) → Heap → Prop} {YP : World → Heap → Prop} {d : DefRec} {x : Str} (hn : l.most = some n) (hn2 : n ≤ sizeLine) (hdf : d.params.defaults = []) (hr : Room k callerA)
    (F : ∀ (w : World) (mg : Str → Option Value) (fa : Addr) (h : Heap), YP w h → h.Ns mainGlobals mg → mg d.name = some (.ref fa) → ∃ (K : PySem.W.Frag) (fd : FuncData) (sp : List V → Hp → VK → Prop), K.In h ∧ (∀ (s : Shared) (u : Value), BindsTo s fd ⟨[u], []⟩ [(x, u)]) ∧
      (∀ (H : Hp) (a : Addr) (ns : List Int), ns.length ≤ n → Only H → SqL K H a (ns.map V.int) → sp [.ref a] H (fun v _ => v = .bl true)) ∧ ∀ base : Heap, K.In base → base.Ns mainGlobals mg → FnG l.prog w K mg base k fa fd [x] sp) :
    PySem.W.WalkO q loose XP YP l.row.toRowW d [] (fun f vs => PySem.call f vs) := by
  refine Att.attach_call hn hdf ?_
  intro w s0 s1 mg mb fa o pm cd doc a vs ns G Y ho hd hcd hmg hobj hints hlen hg
  obtain ⟨K, fd, sp, KX, hb, hsp, hF⟩ := F w mg fa _ Y G.T.g hmg
  exact law_callG KX G.T.g G.T.b G.T.builtins G.T.nolimit hg hobj hints (Nat.le_trans hlen hn2) hr hF hb fun H hO hS => hsp H a ns hlen hO hS
/-- the law's reading of its script -/
theorem law_sF {K : PySem.W.Frag} {tb : List Fi} {k f : Nat} {H : Hp} {a : Addr} {ns : List Int} {outs : List Sl} (hS : SqL K H a (ns.map V.int)) (e : callAt tb k f [.d (.scr ns)] = some (.d (.bl true), outs)) : sF K (callAt tb k) f [.ref a] H (fun v _ => v = .bl true) := by
  refine ⟨H, [.d (.scr ns)], .d (.bl true), outs, ⟨Ex.refl _, rfl, fun i x e => ?_, fun i xs m e => ?_, fun i j xs m ys n p e1 => ?_⟩, e, fun F' H' v c => ?_⟩
  · cases i with
    | zero =>
      simp at e; subst e
      exact ⟨_, rfl, .scr hS⟩
    | succ i => simp at e
  · cases i with
    | zero => simp at e
    | succ i => simp at e
  · cases i with
    | zero => simp at e1
    | succ i => simp at e1
  · have := c.resd _ rfl
    cases this; rfl
/-- one def's promise, its function object first -/
theorem law_fn {P : Program} {w : World} {K : PySem.W.Frag} {h : Heap} {mg : Str → Option Value} {fa : List He.Fa} {fn : List He.DefD} {G : Gx} {Ns : List (List Str)} {tb : List Fi} {x y : Str} {f : Nat} {i : FIn} (X : K.In h) (hns : h.Ns mainGlobals mg) (c : He.SaysD fa fn K) (hg : gcOk K G.gcd = true) (hcs : G.cns.all (cnOk K) = true)
    (htb : trDefs G fn G.inf Ns = some tb) (h1 : fnsOk fa fn G.fns = true) (h2 : bisAll fa G.bis = true) (e1 : G.fns.lookup x = some f) (e2 : G.inf[f]? = some i) (hx : i.ps = [y]) :
    ∃ a fd, mg x = some (.ref a) ∧ (∀ (s : Shared) (u : Value), BindsTo s fd ⟨[u], []⟩ [(y, u)]) ∧ ∀ base k, FnG P w K mg base k a fd [y] (sF K (callAt tb k) f) := by
  have q := lookup_all h1 e1
  rw [Bool.and_eq_true] at q
  obtain ⟨j, hj⟩ := fa_glo q.2
  obtain ⟨d, N, fi, g1, g2, g3⟩ := trDefs_get htb f i e2
  have q1 := q.1
  simp only [g1, Bool.and_eq_true, decide_eq_true_eq, List.isEmpty_iff] at q1
  unfold trDef at g3
  split at g3
  · rename_i ok
    obtain ⟨s1, s2, s3, s4, s5, s6, s7⟩ := defOk_ok ok
    obtain ⟨ib, g4, g5⟩ := Option.map_eq_some_iff.mp g3
    obtain ⟨fd, FD⟩ := c.def_ f g1
    have gm := He.glo_ok X hns (c.fact j hj)
    have ea : He.fAd K d.at_ = He.ga K x := by rw [q1.1]; rfl
    obtain ⟨oc, od, dV, kV, doc, pm, an, cdv, ct, osl, rfl, lk, hcd, hD, _⟩ := FD.ex
    have hdV : dV = .none := by
      rcases hD with ⟨_, z⟩ | ⟨z, _⟩
      · exact z
      · exact absurd (by rw [He.DefD.dvs, s7]; rfl) z
    rw [hx] at s1 s3
    refine ⟨He.fAd K d.at_, PySem.W.fnOf d.name d.qual d.params d.body d.scope dV kV doc pm an cdv ct, by rw [ea]; exact gm, fun s u => ?_, fun base k => ?_⟩
    · have kg : KG (PySem.W.fnOf d.name d.qual d.params d.body d.scope dV kV doc pm an cdv ct) [y] 1 [] [0] := kg_of s2 s3 s4 s5 s6 hdV (by
        unfold kwOk
        simp)
      exact .of_eq (kg.to [u] [] rfl rfl)
    · cases k with
      | zero => exact FnG.zero
      | succ k =>
        have g6 := g5
        rw [hx] at g6
        exact fn_ok lk hcd s1 (by rw [g6]; exact g2) g4 (gok_all X hns c hg hcs htb h1 h2 k)
  · cases g3
/-- all that a claim has to give -/
theorem law_done {l : PySem.W.OpenLaw} {n k f : Nat} {q : Program} {loose : List Str} {XP : (Str → Option Value) → Heap → Prop} {d : DefRec} {x : Str} {m : Nat} {fa : List He.Fa} {fn : List He.DefD} {G : Gx} {Ns : List (List Str)} {tb : List Fi} {i : FIn}
    (hn : l.most = some n) (hn2 : n ≤ 63) (hdf : d.params.defaults = []) (hk : k ≤ 200) (htb : trDefs G fn G.inf Ns = some tb) (h1 : fnsOk fa fn G.fns = true) (h2 : bisAll fa G.bis = true) (hf : G.fns.lookup d.name = some f) (hi : G.inf[f]? = some i) (hx : i.ps = [x])
    (math : ∀ ns : List Int, ns.length ≤ n → ∃ outs, callAt tb k f [.d (.scr ns)] = some (.d (.bl true), outs)) :
    PySem.W.WalkO q loose XP (hookG m fa fn G.gcd G.cns).says l.row.toRowW d [] (fun f vs => PySem.call f vs) := by
  have hr : Room k callerA := ⟨rfl, by show 1 + 300 + 3 * k + 5 < 1000; omega, by show 4 + 16 * k + 200 < 9900; omega⟩
  refine walk_G (x := x) hn (by rw [line_eq]; have : 63 ≤ line := by decide
                                omega) hdf hr fun w mg fa' h Y hns hmg => ?_
  obtain ⟨K, KX, c, hg, hcs⟩ := Y
  obtain ⟨a, fd, e1, e2, e3⟩ := law_fn (P := l.prog) (w := w) KX hns c hg hcs htb h1 h2 hf hi hx
  rw [hmg] at e1
  cases e1
  refine ⟨K, fd, _, KX, e2, fun H b ns hl _ hS => ?_, fun base _ _ => e3 base k⟩
  obtain ⟨outs, e⟩ := math ns hl
  exact law_sF hS e
end Ev

set_option maxHeartbeats 40000000
namespace Z
open PySem PySem.Spec PyProof.Rows L2 Ev
abbrev row := PySem.Challenge.rw_evenmarks_k24_whole_shares_between_neigh
abbrev R : PySem.W.OpenRow := PySem.W.OpenLaw.row row
def defD : Stmt → Option He.DefD
  | .FunctionDef n a b _ _ _ sc _ _ _ => some ⟨(n, none), n, n, a, b, sc, [], []⟩
  | _ => none
def fn0 : List He.DefD := R.prog.main.body.filterMap defD
def fn : List He.DefD := ([("is_integer", 0), ("ratio_is_right", 1), ("is_ratio", 2), ("neighbours_are_right", 3), ("check_neighbours", 4), ("shares", 5), ("_law_pot", 6), ("_law_draw", 7), ("_law_pick", 8), ("_law_low", 10), ("_law_below", 11), ("_law_neighbours", 17), ("_law_put", 18), ("_law_right", 19), ("law", 20)] : List (Str × Nat)).filterMap fun p => fn0[p.2]?.map fun d => { d with at_ := (p.1, none) }
def names : List Str := ["is_integer", "ratio_is_right", "is_ratio", "neighbours_are_right", "check_neighbours", "shares", "_law_pot", "_law_draw", "_law_pick", "_law_low", "_law_below", "_law_neighbours", "_law_put", "_law_right", "law"]
def blts : List Str := ["isinstance", "int", "bool", "abs", "len", "range", "max", "min", "repr", "all", "tuple"]
def fa : List He.Fa := names.map .glo ++ blts.map .free
def G : Gx where
  fns := [("is_integer", 0), ("ratio_is_right", 1), ("is_ratio", 2), ("neighbours_are_right", 3), ("check_neighbours", 4), ("shares", 5), ("_law_pot", 6), ("_law_draw", 7), ("_law_pick", 8), ("_law_low", 9), ("_law_below", 10), ("_law_neighbours", 11), ("_law_put", 12), ("_law_right", 13), ("law", 14)]
  inf := [⟨["value"], [true]⟩, ⟨["value"], [true]⟩, ⟨["value"], [true]⟩, ⟨["left", "right"], [true, true]⟩, ⟨["left", "right"], [true, true]⟩, ⟨["left", "right", "ratio"], [true, true, true]⟩, ⟨["script", "k"], [true, true]⟩, ⟨["pot", "many"], [true, true]⟩, ⟨["pot", "some"], [true, true]⟩, ⟨["top", "bottom"], [true, true]⟩, ⟨["one", "other"], [true, true]⟩, ⟨["pot", "turns"], [true, true]⟩, ⟨["left", "right", "many", "others"], [true, true, true, true]⟩, ⟨["pot"], [true]⟩, ⟨["script"], [true]⟩]
  bis := blts
  gcd := true
  cns := [("ENDLESS", .tup [.int 1, .int 0])]
def Ns : List (List Str) := [["value"], ["value", "one"], ["value"], ["left", "right", "one"], ["left", "right"], ["left", "right", "ratio", "found"], ["script", "k", "cell", "mixed"], ["pot", "many", "digit"], ["pot", "some"], ["top", "bottom", "sign", "one", "other"], ["one", "other"], ["pot", "turns", "turn", "left", "right", "mediant"], ["left", "right", "many", "others"], ["pot", "drawn", "turn", "mediant", "left", "right", "wide", "pair", "one", "near", "other", "far"], ["script", "pot", "time"]]
def loose : List Str := ["gcd", "is_integer", "ratio_is_right", "EvenError", "InvalidRatio", "InvalidLeft", "InvalidRight", "is_ratio", "ENDLESS", "neighbours_are_right", "check_neighbours", "shares", "_law_pot", "_law_draw", "_law_pick", "_law_is_int", "_law_low", "_law_below", "_law_less", "_law_plus", "_law_all", "_law_multiple", "_law_ratio", "_law_neighbours", "_law_put", "_law_right"]
def t_is_integer_0 : Fi := ⟨1, 1, [
  .ret (.and (.op (.isi [.int]) [(.var 0)]) (.op .no [(.op (.isi [.bool]) [(.var 0)])]))]⟩
def t_ratio_is_right_1 : Fi := ⟨1, 2, [
  .ifs (.or (.op .no [(.op (.isi [.tuple]) [(.var 0)])]) (.or (.op .ne [(.op .len [(.var 0)]), (.lit (.int 2))]) (.op .no [(.op .all [(.comp (.call 0 [true] [0] [(.var 1)]) (.nm 1) .seq [(.var 0)] [] [1])])]))) [.ret (.lit (.bl false))] [],
  .ret (.and (.op .ge [(.op .ix [(.var 0), (.lit (.int 1))]), (.lit (.int 1))]) (.op .eq [(.op .gcd [(.op .ix [(.var 0), (.lit (.int 0))]), (.op .ix [(.var 0), (.lit (.int 1))])]), (.lit (.int 1))]))]⟩
def t_is_ratio_2 : Fi := ⟨1, 1, [
  .ret (.call 1 [true] [0] [(.var 0)])]⟩
def t_neighbours_are_right_3 : Fi := ⟨2, 3, [
  .ifs (.or (.op .no [(.call 2 [true] [0] [(.var 0)])]) (.op .lt [(.op .ix [(.var 0), (.lit (.int 0))]), (.lit (.int 0))])) [.ret (.lit (.bl false))] [],
  .ifs (.or (.op .no [(.op (.isi [.tuple]) [(.var 1)])]) (.or (.op .ne [(.op .len [(.var 1)]), (.lit (.int 2))]) (.op .no [(.op .all [(.comp (.call 0 [true] [0] [(.var 2)]) (.nm 2) .seq [(.var 1)] [] [2])])]))) [.ret (.lit (.bl false))] [],
  .ifs (.and (.op .ne [(.var 1), (.lit (.tup [.int 1, .int 0]))]) (.or (.op .no [(.call 2 [true] [0] [(.var 1)])]) (.op .lt [(.op .ix [(.var 1), (.lit (.int 0))]), (.lit (.int 0))]))) [.ret (.lit (.bl false))] [],
  .ret (.op .eq [(.op .sub [(.op .mul [(.op .ix [(.var 1), (.lit (.int 0))]), (.op .ix [(.var 0), (.lit (.int 1))])]), (.op .mul [(.op .ix [(.var 0), (.lit (.int 0))]), (.op .ix [(.var 1), (.lit (.int 1))])])]), (.lit (.int 1))])]⟩
def t_check_neighbours_4 : Fi := ⟨2, 2, [
  .ifs (.or (.op .no [(.call 2 [true] [0] [(.var 0)])]) (.op .lt [(.op .ix [(.var 0), (.lit (.int 0))]), (.lit (.int 0))])) [.never] [],
  .ifs (.op .no [(.call 3 [true, true] [0, 1] [(.var 0), (.var 1)])]) [.never] []]⟩
def t_shares_5 : Fi := ⟨3, 4, [
  .expr (.call 4 [true, true] [0, 1] [(.var 0), (.var 1)]),
  .ifs (.op .no [(.call 2 [true] [0] [(.var 2)])]) [.never] [],
  .asg (.nm 3) (.tup [(.op .sub [(.op .mul [(.op .ix [(.var 1), (.lit (.int 0))]), (.op .ix [(.var 2), (.lit (.int 1))])]), (.op .mul [(.op .ix [(.var 1), (.lit (.int 1))]), (.op .ix [(.var 2), (.lit (.int 0))])])]), (.op .sub [(.op .mul [(.op .ix [(.var 0), (.lit (.int 1))]), (.op .ix [(.var 2), (.lit (.int 0))])]), (.op .mul [(.op .ix [(.var 0), (.lit (.int 0))]), (.op .ix [(.var 2), (.lit (.int 1))])])])]),
  .ifs (.op .lt [(.op .minL [(.var 3)]), (.lit (.int 0))]) [.never] [],
  .ret (.var 3)]⟩
def t_law_pot_6 : Fi := ⟨2, 4, [
  .asg (.nm 2) (.ite (.op .lt [(.var 1), (.op .len [(.var 0)])]) (.op .abs [(.op .ix [(.var 0), (.var 1)])]) (.op .add [(.op .mul [(.lit (.int 739)), (.var 1)]), (.lit (.int 1009))])),
  .asg (.nm 3) (.op .add [(.op .mod [(.op .toInt [(.op .add [(.op .add [(.op .mul [(.op .mod [(.op .toInt [(.var 2)]), (.lit (.int 2147483549))]), (.lit (.int 39373))]), (.op .mul [(.lit (.int 4261)), (.var 1)])]), (.lit (.int 163))])]), (.lit (.int 2147483563))]), (.lit (.int 1))]),
  .ret (.lst [(.op .max2 [(.lit (.int 0)), (.op .sub [(.var 2), (.op .pow [(.lit (.int 10)), (.lit (.int 18))])])]), (.var 3)])]⟩
def t_law_draw_7 : Fi := ⟨2, 3, [
  .ifs (.op .gt [(.op .ix [(.var 0), (.lit (.int 0))]), (.lit (.int 0))]) [.asg (.nm 2) (.op .mod [(.op .toInt [(.op .ix [(.var 0), (.lit (.int 0))])]), (.var 1)]), .set 0 (.lit (.int 0)) (.op .fdiv [(.op .toInt [(.op .ix [(.var 0), (.lit (.int 0))])]), (.var 1)]), .ret (.var 2)] [],
  .set 0 (.lit (.int 1)) (.op .mod [(.op .toInt [(.op .add [(.op .mul [(.op .ix [(.var 0), (.lit (.int 1))]), (.lit (.int 39373))]), (.lit (.int 4261))])]), (.lit (.int 2147483549))]),
  .ret (.op .mod [(.op .toInt [(.op .fdiv [(.op .mod [(.op .toInt [(.op .mul [(.op .ix [(.var 0), (.lit (.int 1))]), (.op .ix [(.var 0), (.lit (.int 1))])])]), (.lit (.int 2147483563))]), (.lit (.int 19))])]), (.var 1)])]⟩
def t_law_pick_8 : Fi := ⟨2, 2, [
  .ret (.op .ix [(.var 1), (.call 7 [true, true] [0, 1] [(.var 0), (.op .len [(.var 1)])])])]⟩
def t_law_low_9 : Fi := ⟨2, 5, [
  .par [(.n (.nm 3)), (.n (.nm 4))] [(.op .abs [(.var 0)]), (.op .abs [(.var 1)])],
  .whl (.op .gt [(.var 4), (.lit (.int 0))]) [.par [(.n (.nm 3)), (.n (.nm 4))] [(.var 4), (.op .mod [(.op .toInt [(.var 3)]), (.var 4)])]],
  .asg (.nm 2) (.ite (.op .gt [(.var 1), (.lit (.int 0))]) (.lit (.int 1)) (.op .neg [(.lit (.int 1))])),
  .ret (.tup [(.op .fdiv [(.op .mul [(.var 2), (.var 0)]), (.var 3)]), (.op .fdiv [(.op .abs [(.var 1)]), (.var 3)])])]⟩
def t_law_below_10 : Fi := ⟨2, 2, [
  .ret (.op .lt [(.op .mul [(.op .ix [(.var 0), (.lit (.int 0))]), (.op .ix [(.var 1), (.lit (.int 1))])]), (.op .mul [(.op .ix [(.var 1), (.lit (.int 0))]), (.op .ix [(.var 0), (.lit (.int 1))])])])]⟩
def t_law_neighbours_11 : Fi := ⟨2, 6, [
  .par [(.n (.nm 3)), (.n (.nm 4))] [(.tup [(.lit (.int 0)), (.lit (.int 1))]), (.tup [(.lit (.int 1)), (.lit (.int 0))])],
  .for (.nm 2) .range [(.var 1)] [.asg (.nm 5) (.tup [(.op .add [(.op .ix [(.var 3), (.lit (.int 0))]), (.op .ix [(.var 4), (.lit (.int 0))])]), (.op .add [(.op .ix [(.var 3), (.lit (.int 1))]), (.op .ix [(.var 4), (.lit (.int 1))])])]), .ifs (.op .eq [(.call 7 [true, true] [0, 1] [(.var 0), (.lit (.int 2))]), (.lit (.int 0))]) [.asg (.nm 3) (.var 5)] [.asg (.nm 4) (.var 5)]],
  .ret (.tup [(.var 3), (.var 4)])]⟩
def t_law_put_12 : Fi := ⟨4, 4, [
  .ret (.tup [(.op .add [(.op .mul [(.var 2), (.op .ix [(.var 0), (.lit (.int 0))])]), (.op .mul [(.var 3), (.op .ix [(.var 1), (.lit (.int 0))])])]), (.op .add [(.op .mul [(.var 2), (.op .ix [(.var 0), (.lit (.int 1))])]), (.op .mul [(.var 3), (.op .ix [(.var 1), (.lit (.int 1))])])])])]⟩
def t_law_right_13 : Fi := ⟨1, 12, [
  .asg (.tp [(.nm 4), (.nm 5)]) (.call 11 [true, true] [0, 1] [(.var 0), (.call 7 [true, true] [0, 1] [(.var 0), (.call 8 [true, true] [0, 1] [(.var 0), (.lst [(.lit (.int 3)), (.lit (.int 12)), (.lit (.int 40))])])])]),
  .asg (.nm 1) (.lst []),
  .for (.nm 2) .range [(.lit (.int 6))] [.asg (.nm 6) (.call 8 [true, true] [0, 1] [(.var 0), (.lst [(.lit (.int 4)), (.lit (.int 40)), (.op .pow [(.lit (.int 10)), (.lit (.int 9))])])]), .asg (.nm 7) (.tup [(.call 7 [true, true] [0, 1] [(.var 0), (.var 6)]), (.call 7 [true, true] [0, 1] [(.var 0), (.var 6)])]), .asg (.nm 7) (.ite (.op .eq [(.var 7), (.tup [(.lit (.int 0)), (.lit (.int 0))])]) (.tup [(.lit (.int 1)), (.lit (.int 0))]) (.ite (.op .gt [(.op .ix [(.var 7), (.lit (.int 1))]), (.lit (.int 0))]) (.call 9 [true, true] [0, 1] [(.op .ix [(.var 7), (.lit (.int 0))]), (.op .ix [(.var 7), (.lit (.int 1))])]) (.tup [(.lit (.int 1)), (.lit (.int 0))]))), .asg (.nm 8) (.call 12 [true, true, true, true] [0, 1, 2, 3] [(.var 4), (.var 5), (.op .ix [(.var 7), (.lit (.int 0))]), (.op .ix [(.var 7), (.lit (.int 1))])]), .ifs (.op .gt [(.op .ix [(.var 8), (.lit (.int 1))]), (.lit (.int 0))]) [.ifs (.or (.op .ne [(.var 8), (.call 9 [true, true] [0, 1] [(.op .ix [(.var 8), (.lit (.int 0))]), (.op .ix [(.var 8), (.lit (.int 1))])])]) (.op .ne [(.op .repr [(.lst [(.call 5 [true, true, true] [0, 1, 2] [(.var 4), (.var 5), (.var 8)]), (.call 5 [true, true, true] [2, 1, 0] [(.var 8), (.var 5), (.var 4)])])]), (.op .repr [(.lst [(.var 7), (.var 7)])])])) [.ret (.lit (.bl false))] [], .expr (.mut .append 1 [(.tup [(.var 8), (.var 7)])])] []],
  .for (.tp [(.nm 8), (.nm 9)]) .seq [(.var 1)] [.for (.tp [(.nm 10), (.nm 11)]) .seq [(.var 1)] [.ifs (.op .ne [(.call 10 [true, true] [0, 1] [(.var 8), (.var 10)]), (.op .lt [(.op .mul [(.op .ix [(.var 9), (.lit (.int 1))]), (.op .ix [(.var 11), (.lit (.int 0))])]), (.op .mul [(.op .ix [(.var 11), (.lit (.int 1))]), (.op .ix [(.var 9), (.lit (.int 0))])])])]) [.ret (.lit (.bl false))] []]],
  .asg (.nm 3) (.call 12 [true, true, true, true] [0, 1, 2, 3] [(.var 4), (.var 5), (.lit (.int 1)), (.lit (.int 1))]),
  .ifs (.or (.op .ne [(.call 5 [true, true, true] [0, 1, 2] [(.var 4), (.var 5), (.var 3)]), (.tup [(.lit (.int 1)), (.lit (.int 1))])]) (.op .ne [(.call 5 [true, true, true] [0, 1, 2] [(.var 4), (.var 5), (.var 4)]), (.tup [(.lit (.int 1)), (.lit (.int 0))])])) [.ret (.lit (.bl false))] [],
  .for (.tp [(.nm 8), (.nm 7)]) .seq [(.var 1)] [.ifs (.and (.op .ge [(.op .ix [(.var 7), (.lit (.int 0))]), (.op .ix [(.var 7), (.lit (.int 1))])]) (.op .ne [(.call 5 [true, true, true] [0, 1, 2] [(.var 4), (.var 3), (.var 8)]), (.tup [(.op .sub [(.op .ix [(.var 7), (.lit (.int 0))]), (.op .ix [(.var 7), (.lit (.int 1))])]), (.op .ix [(.var 7), (.lit (.int 1))])])])) [.ret (.lit (.bl false))] [], .ifs (.and (.op .le [(.op .ix [(.var 7), (.lit (.int 0))]), (.op .ix [(.var 7), (.lit (.int 1))])]) (.op .ne [(.call 5 [true, true, true] [0, 1, 2] [(.var 3), (.var 5), (.var 8)]), (.tup [(.op .ix [(.var 7), (.lit (.int 0))]), (.op .sub [(.op .ix [(.var 7), (.lit (.int 1))]), (.op .ix [(.var 7), (.lit (.int 0))])])])])) [.ret (.lit (.bl false))] []],
  .ret (.lit (.bl true))]⟩
def t_law_14 : Fi := ⟨1, 3, [
  .asg (.nm 1) (.call 6 [true, true] [0, 1] [(.var 0), (.lit (.int 0))]),
  .ret (.op .all [(.comp (.call 13 [true] [0] [(.var 1)]) (.nm 2) .range [(.lit (.int 6))] [] [2])])]⟩
def tb : List Fi := [t_is_integer_0, t_ratio_is_right_1, t_is_ratio_2, t_neighbours_are_right_3, t_check_neighbours_4, t_shares_5, t_law_pot_6, t_law_draw_7, t_law_pick_8, t_law_low_9, t_law_below_10, t_law_neighbours_11, t_law_put_12, t_law_right_13, t_law_14]
theorem tb_ok : trDefs G fn G.inf Ns = some tb := by kernel_rfl
theorem fns_ok : fnsOk fa fn G.fns = true := by kernel_rfl
theorem bis_ok : bisAll fa G.bis = true := by kernel_rfl
end Z

set_option maxHeartbeats 40000000
/-! Ev, part M: single steps, for proofs about what a def computes. -/
namespace Ev
open PySem
theorem q_add (a b : Int) : opF .add [.int a, .int b] = some (.d (.int (a + b))) := rfl
theorem q_sub (a b : Int) : opF .sub [.int a, .int b] = some (.d (.int (a - b))) := rfl
theorem q_mul {a b : Int} (h : mulOk a b = true) : opF .mul [.int a, .int b] = some (.d (.int (a * b))) := if_pos h
theorem q_fdiv {a b : Int} (h : divOk b = true) : opF .fdiv [.int a, .int b] = some (.d (.int (a.fdiv b))) := if_pos h
theorem q_mod {a b : Int} (h : (b != 0) = true) : opF .mod [.int a, .int b] = some (.d (.int (a.fmod b))) := if_pos h
theorem q_neg (a : Int) : opF .neg [.int a] = some (.d (.int (-a))) := rfl
theorem q_no (a : Bool) : opF .no [.bl a] = some (.d (.bl (!a))) := rfl
theorem q_eq (a b : Int) : opF .eq [.int a, .int b] = some (.d (.bl (a == b))) := rfl
theorem q_ne (a b : Int) : opF .ne [.int a, .int b] = some (.d (.bl (!(a == b)))) := rfl
theorem q_lt (a b : Int) : opF .lt [.int a, .int b] = some (.d (.bl (decide (a < b)))) := rfl
theorem q_le (a b : Int) : opF .le [.int a, .int b] = some (.d (.bl (decide (a ≤ b)))) := rfl
theorem q_gt (a b : Int) : opF .gt [.int a, .int b] = some (.d (.bl (decide (b < a)))) := rfl
theorem q_ge (a b : Int) : opF .ge [.int a, .int b] = some (.d (.bl (decide (b ≤ a)))) := rfl
theorem q_toInt (a : Int) : opF .toInt [.int a] = some (.d (.int a)) := rfl
theorem q_abs (a : Int) : opF .abs [.int a] = some (.d (.int (if a < 0 then -a else a))) := rfl
theorem q_max2 (a b : Int) : opF .max2 [.int a, .int b] = some (.d (.int (if b > a then b else a))) := rfl
theorem q_divmod {a b : Int} (h : 0 < b ∧ b < 1073741824) : opF .divmod [.int a, .int b] = some (.d (.tup [.int (a / b), .int (a % b)])) := if_pos h
theorem q_lenL (xs : List D) : opF .len [.lst xs] = some (.d (.int xs.length)) := rfl
theorem q_lenS (xs : List Int) : opF .len [.scr xs] = some (.d (.int xs.length)) := rfl
theorem q_lenT (xs : List D) : opF .len [.tup xs] = some (.d (.int xs.length)) := rfl
theorem q_ixL (xs : List D) (i : Int) : opF .ix [.lst xs, .int i] = (atI xs i).map .d := rfl
theorem q_ixT (xs : List D) (i : Int) : opF .ix [.tup xs, .int i] = (atI xs i).map .d := rfl
theorem q_ixS (xs : List Int) (i : Int) : opF .ix [.scr xs, .int i] = (atI (xs.map .int) i).map .d := rfl
theorem at1_0 (x : D) : atI [x] 0 = some x := rfl
theorem ixN1_0 : ixN 1 0 = some 0 := rfl
theorem at2_0 (x y : D) : atI [x, y] 0 = some x := rfl
theorem ixN2_0 : ixN 2 0 = some 0 := rfl
theorem at2_1 (x y : D) : atI [x, y] 1 = some y := rfl
theorem ixN2_1 : ixN 2 1 = some 1 := rfl
theorem at3_0 (x y z : D) : atI [x, y, z] 0 = some x := rfl
theorem ixN3_0 : ixN 3 0 = some 0 := rfl
theorem at3_1 (x y z : D) : atI [x, y, z] 1 = some y := rfl
theorem ixN3_1 : ixN 3 1 = some 1 := rfl
theorem at3_2 (x y z : D) : atI [x, y, z] 2 = some z := rfl
theorem ixN3_2 : ixN 3 2 = some 2 := rfl
theorem at4_0 (x y z u : D) : atI [x, y, z, u] 0 = some x := rfl
theorem ixN4_0 : ixN 4 0 = some 0 := rfl
theorem at4_1 (x y z u : D) : atI [x, y, z, u] 1 = some y := rfl
theorem ixN4_1 : ixN 4 1 = some 1 := rfl
theorem at4_2 (x y z u : D) : atI [x, y, z, u] 2 = some z := rfl
theorem ixN4_2 : ixN 4 2 = some 2 := rfl
theorem at4_3 (x y z u : D) : atI [x, y, z, u] 3 = some u := rfl
theorem ixN4_3 : ixN 4 3 = some 3 := rfl
theorem at5_0 (x y z u v : D) : atI [x, y, z, u, v] 0 = some x := rfl
theorem ixN5_0 : ixN 5 0 = some 0 := rfl
theorem at5_1 (x y z u v : D) : atI [x, y, z, u, v] 1 = some y := rfl
theorem ixN5_1 : ixN 5 1 = some 1 := rfl
theorem at5_2 (x y z u v : D) : atI [x, y, z, u, v] 2 = some z := rfl
theorem ixN5_2 : ixN 5 2 = some 2 := rfl
theorem at5_3 (x y z u v : D) : atI [x, y, z, u, v] 3 = some u := rfl
theorem ixN5_3 : ixN 5 3 = some 3 := rfl
theorem at5_4 (x y z u v : D) : atI [x, y, z, u, v] 4 = some v := rfl
theorem ixN5_4 : ixN 5 4 = some 4 := rfl
theorem at6_0 (x y z u v w : D) : atI [x, y, z, u, v, w] 0 = some x := rfl
theorem ixN6_0 : ixN 6 0 = some 0 := rfl
theorem at6_1 (x y z u v w : D) : atI [x, y, z, u, v, w] 1 = some y := rfl
theorem ixN6_1 : ixN 6 1 = some 1 := rfl
theorem at6_2 (x y z u v w : D) : atI [x, y, z, u, v, w] 2 = some z := rfl
theorem ixN6_2 : ixN 6 2 = some 2 := rfl
theorem at6_3 (x y z u v w : D) : atI [x, y, z, u, v, w] 3 = some u := rfl
theorem ixN6_3 : ixN 6 3 = some 3 := rfl
theorem at6_4 (x y z u v w : D) : atI [x, y, z, u, v, w] 4 = some v := rfl
theorem ixN6_4 : ixN 6 4 = some 4 := rfl
theorem at6_5 (x y z u v w : D) : atI [x, y, z, u, v, w] 5 = some w := rfl
theorem ixN6_5 : ixN 6 5 = some 5 := rfl
theorem bd {α β : Type} (a : α) (f : α → Option β) : (some a).bind f = f a := rfl
/-! ### the evaluator by constructors; turns, tests, blocks stay folded -/
def turnF (C : Sem0) (fuel : Nat) (tg : Tn) (body : List S) : D → En → Option Fl := fun x env => (bindN tg x env).bind fun env => exB C fuel body env
def testF (C : Sem0) (c : E) : En → Option (Bool × En) := fun env => (evA C c env).bind fun p => (boolA p.2 p.1).bind fun k => some (k, p.2)
def blockF (C : Sem0) (fuel : Nat) (body : List S) : En → Option Fl := fun env => exB C fuel body env
section
variable (C : Sem0) (fuel : Nat) (env : En)
theorem v_var (i : Nat) : evA C (.var i) env = match env[i]? with
    | some (.d x) => some (.v (.d x), env)
    | some (.own _ _) => some (.r i, env)
    | _ => none := by rw [evA] <;> rfl
theorem v_lit (x : D) : evA C (.lit x) env = some (.v (.d x), env) := by rw [evA]
theorem v_op (o : Op) (es : List E) : evA C (.op o es) env = (evAs C es env).bind fun p => (rdAs p.2 p.1).bind fun ds => (opF o ds).bind fun t => some (.v t, p.2) := by rw [evA]
theorem v_tup (es : List E) : evA C (.tup es) env = (evAs C es env).bind fun p => (frzs p.1 p.2).bind fun q => if q.1.length ≤ line then some (.v (.d (.tup q.1)), q.2) else none := by rw [evA]
theorem v_lst (es : List E) : evA C (.lst es) env = (evAs C es env).bind fun p => (frzs p.1 p.2).bind fun q => if q.1.length ≤ line then some (.v (.fr q.1), q.2) else none := by rw [evA]
theorem v_and (a b : E) : evA C (.and a b) env = (evA C a env).bind fun p => (boolA p.2 p.1).bind fun k => if k = true then (evA C b p.2).bind fun q => (boolA q.2 q.1).bind fun k' => some (.v (.d (.bl k')), q.2) else some (.v (.d (.bl false)), p.2) := by rw [evA]
theorem v_or (a b : E) : evA C (.or a b) env = (evA C a env).bind fun p => (boolA p.2 p.1).bind fun k => if k = true then some (.v (.d (.bl true)), p.2) else (evA C b p.2).bind fun q => (boolA q.2 q.1).bind fun k' => some (.v (.d (.bl k')), q.2) := by rw [evA]
theorem v_ite (c a b : E) : evA C (.ite c a b) env = (evA C c env).bind fun p => (boolA p.2 p.1).bind fun k => if k = true then evA C a p.2 else evA C b p.2 := by rw [evA]
theorem v_chain (o o' : Op) (a b c : E) : evA C (.chain o o' a b c) env = (evA C a env).bind fun p => (evA C b p.2).bind fun q => (rdAs q.2 [p.1, q.1]).bind fun ds => (opF o ds).bind fun t => match t with
    | .d (.bl true) => (evA C c q.2).bind fun r => (rdAs r.2 [q.1, r.1]).bind fun ds' => (opF o' ds').bind fun t' => some (.v t', r.2)
    | .d (.bl false) => some (.v (.d (.bl false)), q.2)
    | _ => none := by rw [evA] <;> rfl
theorem v_call (f : Nat) (rf : List Bool) (pm : List Nat) (es : List E) : evA C (.call f rf pm es) env = (evAs C es env).bind fun p => (frzR rf (pick pm p.1) p.2).bind fun q => if (refs q.1).Nodup then (slAs q.2 q.1).bind fun args => (C f args).bind fun r => (postA q.1 r.2 q.2).bind fun env' => some (.v r.1, env') else none := by rw [evA]
theorem v_comp (elt : E) (tg : Tn) (k : Wk) (es cond : List E) (own : List Nat) : evA C (.comp elt tg k es cond own) env = (evAs C es env).bind fun p => (rdAs p.2 p.1).bind fun ds => (wkL k ds).bind fun its => if its.length ≤ line ∧ (∀ i ∈ refs p.1, i ∉ own) then
      (compL (stepC C elt tg cond own) its (lockA p.1 p.2)).bind fun q => some (.v (.fr q.1), unlockA p.1 (backE (lockA p.1 p.2) q.2 own)) else none := by rw [evA] <;> rfl
theorem v_mut (m : Mt) (i : Nat) (es : List E) : evA C (.mut m i es) env = if isOwn env i = true then (evAs C es env).bind fun p => (if mutKeeps m then frzs p.1 p.2 else (rdAs p.2 p.1).bind fun ds => some (ds, p.2)).bind fun q => match q.2[i]? with
    | some (.own xs n) => if n ≤ 1 then (mutF m xs q.1).bind fun z => some (.v (.d z.1), q.2.set i (.own z.2 n)) else none
    | _ => none else none := by rw [evA] <;> rfl
theorem v_met (m : Me) (i : Nat) (es : List E) : evA C (.met m i es) env = if isLs env i = true then (evAs C es env).bind fun p => (rdA p.2 (.r i)).bind fun x => (rdAs p.2 p.1).bind fun ds => match x with
    | .lst xs => (metF m xs ds).bind fun z => some (.v (.d z), p.2)
    | _ => none else none := by rw [evA] <;> rfl
theorem vs_nil : evAs C [] env = some ([], env) := by rw [evAs]
theorem vs_cons (e : E) (es : List E) : evAs C (e :: es) env = (evA C e env).bind fun p => (evAs C es p.2).bind fun q => some (p.1 :: q.1, q.2) := by rw [evAs]
theorem x_asg (i : Nat) (e : E) : exS C fuel (.asg (.nm i) e) env = (evA C e env).bind fun p => (keepA p.1 p.2).bind fun q => (putN i q.1 q.2).map .nx := by rw [exS]
theorem x_asgT (ts : List Tn) (e : E) : exS C fuel (.asg (.tp ts) e) env = (evA C e env).bind fun p => (frz p.1 p.2).bind fun q => (bindN (.tp ts) q.1 q.2).map .nx := by rw [exS]
theorem x_set (i : Nat) (k e : E) : exS C fuel (.set i k e) env = (evA C e env).bind fun p => (frz p.1 p.2).bind fun q => (putG C (.sb i k) (.d q.1) q.2).map .nx := by rw [exS]
theorem x_unp (ts : List Tg) (e : E) : exS C fuel (.unp ts e) env = (evA C e env).bind fun p => (frz p.1 p.2).bind fun q => match q.1 with
    | .tup xs => (putGs C ts (xs.map .d) q.2).map .nx
    | _ => none := by rw [exS] <;> rfl
theorem x_par (ts : List Tg) (es : List E) : exS C fuel (.par ts es) env = (evAs C es env).bind fun p => (keepAs p.1 p.2).bind fun q => (putGs C ts q.1 q.2).map .nx := by rw [exS]
theorem x_aug (i : Nat) (o : Op) (e : E) : exS C fuel (.aug i o e) env = if isSet env i = true then (evA C e env).bind fun p => (rdA p.2 p.1).bind fun y => (augF o i y p.2).map .nx else none := by rw [exS]
theorem x_if (c : E) (a b : List S) : exS C fuel (.ifs c a b) env = (evA C c env).bind fun p => (boolA p.2 p.1).bind fun k => if k = true then exB C fuel a p.2 else exB C fuel b p.2 := by rw [exS]
theorem frzE_nil : frzE [] = [] := rfl
theorem frzE_cons (s : Sl) (e : En) : frzE (s :: e) = frzSl s :: frzE e := rfl
theorem frzSl_un : frzSl .un = .un := rfl
theorem frzSl_d (x : D) : frzSl (.d x) = .d x := rfl
theorem frzSl_own (xs : List D) (m : Nat) : frzSl (.own xs m) = .d (.lst xs) := rfl
theorem x_ifl (c : E) (a b : List S) : exS C fuel (.ifl c a b) env = (evA C c (frzE env)).bind fun p => (boolA p.2 p.1).bind fun k => if k = true then exB C fuel a env else exB C fuel b env := by rw [exS]
theorem x_whl (c : E) (body : List S) : exS C fuel (.whl c body) env = whlN (testF C c) (blockF C fuel body) fuel env := by rw [exS]; rfl
theorem x_for (tg : Tn) (k : Wk) (es : List E) (body : List S) : exS C fuel (.for tg k es body) env = (evAs C es env).bind fun p => (rdAs p.2 p.1).bind fun ds => (wkL k ds).bind fun its => (forL (turnF C fuel tg body) its (lockA p.1 p.2)).bind fun f => match f with
    | .nx env => some (.nx (unlockA p.1 env))
    | .rt t env => some (.rt t (unlockA p.1 env))
    | _ => none := by rw [exS] <;> rfl
theorem x_ret (e : E) : exS C fuel (.ret e) env = (evA C e env).bind fun p => (retT p.1 p.2).bind fun t => some (.rt t p.2) := by rw [exS]
theorem x_retN : exS C fuel .retN env = some (.rt (.d .non) env) := by rw [exS]
theorem x_expr (e : E) : exS C fuel (.expr e) env = (evA C e env).bind fun p => some (.nx p.2) := by rw [exS]
theorem x_brk : exS C fuel .brk env = some (.bk env) := by rw [exS]
theorem x_cont : exS C fuel .cont env = some (.ct env) := by rw [exS]
theorem x_pass : exS C fuel .pass env = some (.nx env) := by rw [exS]
theorem xs_nil : exB C fuel [] env = some (.nx env) := by rw [exB]
theorem xs_cons (s : S) (ss : List S) : exB C fuel (s :: ss) env = (exS C fuel s env).bind fun f => match f with
    | .nx env => exB C fuel ss env
    | f => some f := by rw [exB] <;> rfl
end
/-! ### more steps -/
theorem q_isi_ii (i : Int) : opF (.isi [.int]) [.int i] = some (.d (.bl true)) := rfl
theorem q_isi_bi (i : Int) : opF (.isi [.bool]) [.int i] = some (.d (.bl false)) := rfl
theorem q_isi_ib (b : Bool) : opF (.isi [.int]) [.bl b] = some (.d (.bl true)) := rfl
theorem q_isi_bb (b : Bool) : opF (.isi [.bool]) [.bl b] = some (.d (.bl true)) := rfl
theorem q_isi_tt (xs : List D) : opF (.isi [.tuple]) [.tup xs] = some (.d (.bl true)) := rfl
theorem q_isi_ll (xs : List D) : opF (.isi [.list]) [.lst xs] = some (.d (.bl true)) := rfl
theorem q_isi_lt (xs : List D) : opF (.isi [.list, .tuple]) [.lst xs] = some (.d (.bl true)) := rfl
theorem q_isi_tl (xs : List D) : opF (.isi [.list, .tuple]) [.tup xs] = some (.d (.bl true)) := rfl
theorem q_isN_n : opF .isN [.non] = some (.d (.bl true)) := rfl
theorem q_isN_t (xs : List D) : opF .isN [.tup xs] = some (.d (.bl false)) := rfl
theorem q_isN_i (i : Int) : opF .isN [.int i] = some (.d (.bl false)) := rfl
theorem q_notN_n : opF .notN [.non] = some (.d (.bl false)) := rfl
theorem q_notN_t (xs : List D) : opF .notN [.tup xs] = some (.d (.bl true)) := rfl
theorem q_notN_i (i : Int) : opF .notN [.int i] = some (.d (.bl true)) := rfl
theorem q_eqS (a b : Str) : opF .eq [.str a, .str b] = some (.d (.bl (a == b))) := rfl
theorem q_neS (a b : Str) : opF .ne [.str a, .str b] = some (.d (.bl (!(a == b)))) := rfl
theorem q_all (xs : List D) : opF .all [.lst xs] = (boolsD xs).bind fun bs => some (.d (.bl (bs.all id))) := rfl
theorem q_any (xs : List D) : opF .any [.lst xs] = (boolsD xs).bind fun bs => some (.d (.bl (bs.any id))) := rfl
theorem q_sum (xs : List D) : opF .sum [.lst xs] = (intsD xs).bind fun ns => some (.d (.int ns.sum)) := rfl
theorem q_tuple (xs : List D) : opF .tuple [.lst xs] = some (.d (.tup xs)) := rfl
theorem q_listT (xs : List D) : opF .list [.tup xs] = some (.fr xs) := rfl
theorem q_listL (xs : List D) : opF .list [.lst xs] = some (.fr xs) := rfl
theorem q_idI (i : Int) : opF .idI [.int i] = some (.d (.int i)) := rfl
theorem q_gcd (a b : Int) : opF .gcd [.int a, .int b] = some (.d (.int ((Nat.gcd a.natAbs b.natAbs : Nat) : Int))) := rfl
theorem q_min2 (a b : Int) : opF .min2 [.int a, .int b] = some (.d (.int (if b < a then b else a))) := rfl
theorem q_isB (a b : Bool) : opF .isB [.bl a, .bl b] = some (.d (.bl (a == b))) := rfl
theorem q_notB (a b : Bool) : opF .notB [.bl a, .bl b] = some (.d (.bl (!(a == b)))) := rfl
theorem q_addL {a b : List D} (h : a.length + b.length ≤ line) : opF .add [.lst a, .lst b] = some (.fr (a ++ b)) := if_pos h
theorem q_addT {a b : List D} (h : a.length + b.length ≤ line) : opF .add [.tup a, .tup b] = some (.d (.tup (a ++ b))) := if_pos h
theorem q_pow {a b : Int} (h : 0 ≤ b ∧ b ≤ 1000000 ∧ a.natAbs < 2 ^ 64) : opF .pow [.int a, .int b] = some (.d (.int (a ^ b.toNat))) := if_pos h
theorem boolsD_map {α : Type} (f : α → Bool) : ∀ l : List α, boolsD (l.map fun x => .bl (f x)) = some (l.map f)
  | [] => rfl
  | a :: l => by simp [boolsD, boolsD_map f l]
theorem intsD_map {α : Type} (f : α → Int) : ∀ l : List α, intsD (l.map fun x => .int (f x)) = some (l.map f)
  | [] => rfl
  | a :: l => by simp [intsD, intsD_map f l]
/-- a comprehension whose turns keep I -/
theorem comp_inv {step : D → En → Option (Option D × En)} (I : En → Prop) (f : D → D) : ∀ {xs : List D}, (∀ x ∈ xs, ∀ en, I en → ∃ en', step x en = some (some (f x), en') ∧ I en') → ∀ {en : En}, I en → ∃ en', compL step xs en = some (xs.map f, en') ∧ I en'
  | [], _, en, h => ⟨en, rfl, h⟩
  | x :: xs, hb, en, h => by
    obtain ⟨e1, h1, h2⟩ := hb x (List.mem_cons_self ..) en h
    obtain ⟨e2, h3, h4⟩ := comp_inv I f (fun y hy => hb y (List.mem_cons_of_mem _ hy)) h2
    refine ⟨e2, ?_, h4⟩
    rw [compL, h1]
    simp only [Option.bind_some, h3, List.map_cons]
theorem ln0 : (0 ≤ line) = True := eq_true (by decide)
theorem ln1 : (1 ≤ line) = True := eq_true (by decide)
theorem ln2 : (2 ≤ line) = True := eq_true (by decide)
theorem ln3 : (3 ≤ line) = True := eq_true (by decide)
theorem ln4 : (4 ≤ line) = True := eq_true (by decide)
theorem ln5 : (5 ≤ line) = True := eq_true (by decide)
theorem ln6 : (6 ≤ line) = True := eq_true (by decide)
theorem ln7 : (7 ≤ line) = True := eq_true (by decide)
theorem ln8 : (8 ≤ line) = True := eq_true (by decide)
theorem ln9 : (9 ≤ line) = True := eq_true (by decide)
theorem ln10 : (10 ≤ line) = True := eq_true (by decide)
theorem ln11 : (11 ≤ line) = True := eq_true (by decide)
theorem ln12 : (12 ≤ line) = True := eq_true (by decide)
theorem ln13 : (13 ≤ line) = True := eq_true (by decide)
theorem ln14 : (14 ≤ line) = True := eq_true (by decide)
theorem ln15 : (15 ≤ line) = True := eq_true (by decide)
theorem ln16 : (16 ≤ line) = True := eq_true (by decide)
theorem ln17 : (17 ≤ line) = True := eq_true (by decide)
theorem ln18 : (18 ≤ line) = True := eq_true (by decide)
theorem ln19 : (19 ≤ line) = True := eq_true (by decide)
theorem ln20 : (20 ≤ line) = True := eq_true (by decide)
theorem ln21 : (21 ≤ line) = True := eq_true (by decide)
theorem ln22 : (22 ≤ line) = True := eq_true (by decide)
theorem ln23 : (23 ≤ line) = True := eq_true (by decide)
theorem ln24 : (24 ≤ line) = True := eq_true (by decide)
theorem whl_true {cond : En → Option (Bool × En)} {body : En → Option Fl} {n : Nat} {env e1 e2 : En} (h1 : cond env = some (true, e1)) (h2 : body e1 = some (.nx e2)) : whlN cond body (n + 1) env = whlN cond body n e2 := by
  rw [whlN, h1]
  simp only [Option.bind_some, if_true, h2]
theorem whl_false {cond : En → Option (Bool × En)} {body : En → Option Fl} {n : Nat} {env e1 : En} (h1 : cond env = some (false, e1)) : whlN cond body (n + 1) env = some (.nx e1) := by
  rw [whlN, h1]
  simp only [Option.bind_some, Bool.false_eq_true, if_false]
theorem for_cons {body : D → En → Option Fl} {x : D} {xs : List D} {env e1 : En} (h : body x env = some (.nx e1)) : forL body (x :: xs) env = forL body xs e1 := by
  rw [forL, h]; rfl
theorem nc0 : ((0 : Nat) : Int) = 0 := rfl
theorem nc1 : ((1 : Nat) : Int) = 1 := rfl
theorem nc2 : ((2 : Nat) : Int) = 2 := rfl
theorem nc3 : ((3 : Nat) : Int) = 3 := rfl
theorem nc4 : ((4 : Nat) : Int) = 4 := rfl
theorem nc5 : ((5 : Nat) : Int) = 5 := rfl
theorem nc6 : ((6 : Nat) : Int) = 6 := rfl
theorem nc7 : ((7 : Nat) : Int) = 7 := rfl
theorem nc8 : ((8 : Nat) : Int) = 8 := rfl
theorem nc9 : ((9 : Nat) : Int) = 9 := rfl
theorem nc10 : ((10 : Nat) : Int) = 10 := rfl
theorem nc11 : ((11 : Nat) : Int) = 11 := rfl
theorem nc12 : ((12 : Nat) : Int) = 12 := rfl
theorem nc13 : ((13 : Nat) : Int) = 13 := rfl
theorem nc14 : ((14 : Nat) : Int) = 14 := rfl
theorem nc15 : ((15 : Nat) : Int) = 15 := rfl
theorem nc16 : ((16 : Nat) : Int) = 16 := rfl
/-- a slot that may be stored anew -/
def frS : Option Sl → Bool
  | some (.own _ (_ + 1)) => false
  | some _ => true
  | none => false
theorem putN_eq (i : Nat) (t : T) (env : En) : putN i t env = if frS env[i]? = true then some (env.set i (slT t)) else none := by
  unfold putN frS
  split <;> simp_all
theorem fr_d (x : D) : frS (some (.d x)) = true := rfl
theorem fr_un : frS (some .un) = true := rfl
theorem fr_own0 (xs : List D) : frS (some (.own xs 0)) = true := rfl
theorem q_repr {x : D} (h : (sh 60 x && wee x && Nat.ble (wt x) 16000000) = true) : opF .repr [x] = some (.d (.str (toPy x).shown)) := by
  have e : opF .repr [x] = if (sh 60 x && wee x && Nat.ble (wt x) 16000000) = true then some (.d (.str (toPy x).shown)) else none := by cases x <;> rfl
  rw [e, if_pos h]
theorem wee_int {i : Int} {n : Nat} (h : i.natAbs < 2 ^ n) (h0 : 0 < n) (h1 : n ≤ 1900) : wee (.int i) = true := by
  unfold wee
  have := bigI_lt h h0
  unfold bigI at this
  exact Nat.ble_eq_true_of_le (by omega)
theorem n_nm (i : Nat) (x : D) (env : En) : bindN (.nm i) x env = putN i (.d x) env := by rw [bindN]
theorem n_tp (ts : List Tn) (xs : List D) (env : En) : bindN (.tp ts) (.tup xs) env = bindNs ts xs env := by rw [bindN]
theorem n_tl (ts : List Tn) (xs : List D) (env : En) : bindN (.tp ts) (.lst xs) env = bindNs ts xs env := by rw [bindN]
theorem ns_nil (env : En) : bindNs [] [] env = some env := by rw [bindNs]
theorem ns_cons (t : Tn) (ts : List Tn) (x : D) (xs : List D) (env : En) : bindNs (t :: ts) (x :: xs) env = (bindN t x env).bind fun env => bindNs ts xs env := by rw [bindNs]
theorem g_nm' (C : Sem0) (i : Nat) (t : T) (env : En) : putG C (.n (.nm i)) t env = putN i t env := rfl
theorem g_tp' (C : Sem0) (ts : List Tn) (x : D) (env : En) : putG C (.n (.tp ts)) (.d x) env = bindN (.tp ts) x env := rfl
theorem g_sb' (C : Sem0) (i : Nat) (k : E) (t : T) (env : En) : putG C (.sb i k) t env = if isOwn env i = true then (evA C k env).bind fun p => (rdA p.2 p.1).bind fun kd => setAt i kd (asD t) p.2 else none := rfl
theorem gs_nil' (C : Sem0) (env : En) : putGs C [] [] env = some env := rfl
theorem gs_cons' (C : Sem0) (g : Tg) (gs : List Tg) (t : T) (ts : List T) (env : En) : putGs C (g :: gs) (t :: ts) env = (putG C g t env).bind fun env => putGs C gs ts env := rfl
end Ev

set_option maxHeartbeats 40000000
/-! Ev, part P: the drawn numbers of the laws that are given by the first cell's own digits. -/
namespace Ev
open PySem
theorem cS (tb : List Fi) (k f : Nat) (args : List Sl) : callAt tb (k + 1) f args = (tb[f]?).bind fun fi => runF (callAt tb k) Fuel fi args := rfl
def tDraw : Fi := ⟨2, 3, [
  .ifs (.op .gt [(.op .ix [(.var 0), (.lit (.int 0))]), (.lit (.int 0))]) [.unp [(.sb 0 (.lit (.int 0))), (.n (.nm 2))] (.op .divmod [(.op .ix [(.var 0), (.lit (.int 0))]), (.var 1)]), .ret (.var 2)] [],
  .set 0 (.lit (.int 1)) (.op .mod [(.op .toInt [(.op .add [(.op .mul [(.op .ix [(.var 0), (.lit (.int 1))]), (.lit (.int 39373))]), (.lit (.int 17))])]), (.lit (.int 2147483647))]),
  .ret (.op .mod [(.op .toInt [(.op .fdiv [(.op .mod [(.op .toInt [(.op .mul [(.op .ix [(.var 0), (.lit (.int 1))]), (.op .ix [(.var 0), (.lit (.int 1))])])]), (.lit (.int 2147483563))]), (.lit (.int 23))])]), (.var 1)])]⟩
def tPick (d : Nat) : Fi := ⟨2, 2, [
  .ret (.op .ix [(.var 1), (.call d [true, true] [0, 1] [(.var 0), (.op .len [(.var 1)])])])]⟩
def tNumber (d : Nat) : Fi := ⟨1, 4, [
  .asg (.nm 1) (.call d [true, true] [0, 1] [(.var 0), (.lit (.int 4))]),
  .ifs (.op .eq [(.var 1), (.lit (.int 0))]) [.ret (.call d [true, true] [0, 1] [(.var 0), (.lit (.int 13))])] [],
  .ifs (.op .eq [(.var 1), (.lit (.int 1))]) [.ret (.call d [true, true] [0, 1] [(.var 0), (.lit (.int 1000))])] [],
  .asg (.nm 2) (.lit (.int 0)),
  .for (.nm 3) .range [(.op .add [(.lit (.int 2)), (.call d [true, true] [0, 1] [(.var 0), (.lit (.int 2))])])] [.asg (.nm 2) (.op .add [(.op .mul [(.var 2), (.lit (.int 1000000000))]), (.call d [true, true] [0, 1] [(.var 0), (.lit (.int 1000000000))])])],
  .ret (.var 2)]⟩
/-- a pot from which one may draw -/
def PotOk (P : List D) : Prop := ∃ a b : Int, P = [.int a, .int b] ∧ 0 ≤ b ∧ b < 2147483648
theorem mulOk_of {a b : Int} {m n : Nat} (h1 : a.natAbs < 2 ^ m) (h2 : b.natAbs < 2 ^ n) (hm : 0 < m) (hn : 0 < n) (h : m + n ≤ 100000000) : mulOk a b = true := by
  have g1 := bigI_lt h1 hm
  have g2 := bigI_lt h2 hn
  unfold mulOk
  rw [Nat.blt_eq]
  omega
theorem divOk_of {b : Int} {n : Nat} (h0 : b ≠ 0) (h1 : b.natAbs < 2 ^ n) (hn : 0 < n) (h : n ≤ 9000) : divOk b = true := by
  have g1 := bigI_lt h1 hn
  unfold divOk
  rw [Bool.and_eq_true, Nat.blt_eq, bne_iff_ne]
  exact ⟨h0, by omega⟩
theorem draw_ok {tb : List Fi} {fd : Nat} (hd : tb[fd]? = some tDraw) (k : Nat) {P : List D} (hP : PotOk P) {m : Int} (h1 : 0 < m) (h2 : m < 1073741824) :
    ∃ d P', PotOk P' ∧ 0 ≤ d ∧ d < m ∧ callAt tb (k + 1) fd [.own P 1, .d (.int m)] = some (.d (.int d), [.own P' 1, .d (.int m)]) := by
  obtain ⟨a, b, rfl, hb0, hb1⟩ := hP
  by_cases h : 0 < a
  · refine ⟨a % m, [.int (a / m), .int b], ⟨_, _, rfl, hb0, hb1⟩, Int.emod_nonneg _ (by omega), Int.emod_lt_of_pos _ h1, ?_⟩
    rw [cS, hd, bd]
    unfold tDraw runF
    simp only [v_var, v_lit, v_op, v_tup, v_lst, v_and, v_or, v_ite, v_chain, v_call, v_comp, v_mut, v_met, vs_nil, vs_cons, x_asg, x_asgT, x_set, x_unp, x_par, x_aug, x_if, x_ifl, frzE_nil, frzE_cons, frzSl_un, frzSl_d, frzSl_own, x_whl, x_for, x_ret, x_retN, x_expr, x_brk, x_cont, x_pass, xs_nil, xs_cons, lockA, unlockA, evCond, rdAs, rdA, boolA, bd, frz, frzs, frzR, slA, slAs, refs, postA, keepA, keepAs, g_nm', g_tp', g_sb', gs_nil', gs_cons', isOwn, isSet, isLs, setAt, putN_eq, fr_d, fr_un, fr_own0, slT, asD, retT, n_nm, n_tp, n_tl, ns_nil, ns_cons, augF, augI, items, mutKeeps, mutF, pick, List.filterMap_cons, List.filterMap_nil, List.getElem?_cons_zero, List.getElem?_cons_succ, List.getElem?_nil, List.length_cons, List.length_nil, List.cons_append, List.nil_append, List.replicate, List.map_cons, List.map_nil, List.set_cons_zero, List.set_cons_succ, List.take_succ_cons, List.take_zero, Option.map_some, Nat.le_refl, Nat.zero_add, Nat.reduceAdd, Nat.reduceSub, Nat.reduceLeDiff, Nat.reduceEqDiff, if_true, if_false, Bool.false_eq_true, reduceIte, List.nodup_nil, List.nodup_cons, List.not_mem_nil, not_false_eq_true, and_true, true_and, List.mem_cons, or_false, or_self, forall_eq, forall_eq_or_imp,  Nat.le_add_left, Nat.zero_le, q_add, q_sub, q_neg, q_no, q_eq, q_ne, q_lt, q_le, q_gt, q_ge, q_toInt, q_abs, q_max2, q_lenL, q_lenS, q_lenT, q_ixL, q_ixT, q_ixS, q_isi_ii, q_isi_bi, q_isi_ib, q_isi_bb, q_isi_tt, q_isi_ll, q_isi_lt, q_isi_tl, q_isN_n, q_isN_t, q_isN_i, q_notN_n, q_notN_t, q_notN_i, q_eqS, q_neS, q_all, q_any, q_sum, q_tuple, q_listT, q_listL, q_idI, q_gcd, q_min2, q_isB, q_notB, Bool.not_true, Bool.not_false, Bool.not_not, at1_0, ixN1_0, at2_0, ixN2_0, at2_1, ixN2_1, at3_0, ixN3_0, at3_1, ixN3_1, at3_2, ixN3_2, at4_0, ixN4_0, at4_1, ixN4_1, at4_2, ixN4_2, at4_3, ixN4_3, at5_0, ixN5_0, at5_1, ixN5_1, at5_2, ixN5_2, at5_3, ixN5_3, at5_4, ixN5_4, at6_0, ixN6_0, at6_1, ixN6_1, at6_2, ixN6_2, at6_3, ixN6_3, at6_4, ixN6_4, at6_5, ixN6_5, ln0, ln1, ln2, ln3, ln4, ln5, ln6, ln7, ln8, ln9, ln10, ln11, ln12, ln13, ln14, ln15, ln16, ln17, ln18, ln19, ln20, ln21, ln22, ln23, ln24, nc0, nc1, nc2, nc3, nc4, nc5, nc6, nc7, nc8, nc9, nc10, nc11, nc12, nc13, nc14, nc15, nc16, false_imp_iff, implies_true, beq_self_eq_true, Int.reduceBEq, Int.reduceLT, Int.reduceLE, decide_true, decide_false, List.all_cons, List.all_nil, List.any_cons, List.any_nil, id_eq, Bool.and_true, Bool.true_and, Bool.and_false, Bool.false_and, Bool.or_true, Bool.true_or, Bool.or_false, Bool.false_or, decide_eq_true h, q_divmod ⟨h1, h2⟩]
  · let b' : Int := (b * 39373 + 17).fmod 2147483647
    have e1 : b' = (b * 39373 + 17) % 2147483647 := Int.fmod_eq_emod_of_nonneg _ (by decide)
    have hb2 : 0 ≤ b' := by rw [e1]; exact Int.emod_nonneg _ (by decide)
    have hb3 : b' < 2147483647 := by rw [e1]; exact Int.emod_lt_of_pos _ (by decide)
    have m1 : mulOk b 39373 = true := mulOk_of (m := 32) (n := 16) (by omega) (by decide) (by decide) (by decide) (by decide)
    have m2 : mulOk b' b' = true := mulOk_of (m := 32) (n := 32) (by omega) (by omega) (by decide) (by decide) (by decide)
    have d1 : divOk 23 = true := by decide
    have n1 : ((2147483647 : Int) != 0) = true := by decide
    have n2 : ((2147483563 : Int) != 0) = true := by decide
    have n3 : (m != 0) = true := by rw [bne_iff_ne]; omega
    refine ⟨(((b' * b').fmod 2147483563).fdiv 23).fmod m, [.int a, .int b'], ⟨_, _, rfl, hb2, by omega⟩, ?_, ?_, ?_⟩
    · rw [Int.fmod_eq_emod_of_nonneg _ (by omega)]; exact Int.emod_nonneg _ (by omega)
    · rw [Int.fmod_eq_emod_of_nonneg _ (by omega)]; exact Int.emod_lt_of_pos _ h1
    · rw [cS, hd, bd]
      unfold tDraw runF
      simp only [v_var, v_lit, v_op, v_tup, v_lst, v_and, v_or, v_ite, v_chain, v_call, v_comp, v_mut, v_met, vs_nil, vs_cons, x_asg, x_asgT, x_set, x_unp, x_par, x_aug, x_if, x_ifl, frzE_nil, frzE_cons, frzSl_un, frzSl_d, frzSl_own, x_whl, x_for, x_ret, x_retN, x_expr, x_brk, x_cont, x_pass, xs_nil, xs_cons, lockA, unlockA, evCond, rdAs, rdA, boolA, bd, frz, frzs, frzR, slA, slAs, refs, postA, keepA, keepAs, g_nm', g_tp', g_sb', gs_nil', gs_cons', isOwn, isSet, isLs, setAt, putN_eq, fr_d, fr_un, fr_own0, slT, asD, retT, n_nm, n_tp, n_tl, ns_nil, ns_cons, augF, augI, items, mutKeeps, mutF, pick, List.filterMap_cons, List.filterMap_nil, List.getElem?_cons_zero, List.getElem?_cons_succ, List.getElem?_nil, List.length_cons, List.length_nil, List.cons_append, List.nil_append, List.replicate, List.map_cons, List.map_nil, List.set_cons_zero, List.set_cons_succ, List.take_succ_cons, List.take_zero, Option.map_some, Nat.le_refl, Nat.zero_add, Nat.reduceAdd, Nat.reduceSub, Nat.reduceLeDiff, Nat.reduceEqDiff, if_true, if_false, Bool.false_eq_true, reduceIte, List.nodup_nil, List.nodup_cons, List.not_mem_nil, not_false_eq_true, and_true, true_and, List.mem_cons, or_false, or_self, forall_eq, forall_eq_or_imp,  Nat.le_add_left, Nat.zero_le, q_add, q_sub, q_neg, q_no, q_eq, q_ne, q_lt, q_le, q_gt, q_ge, q_toInt, q_abs, q_max2, q_lenL, q_lenS, q_lenT, q_ixL, q_ixT, q_ixS, q_isi_ii, q_isi_bi, q_isi_ib, q_isi_bb, q_isi_tt, q_isi_ll, q_isi_lt, q_isi_tl, q_isN_n, q_isN_t, q_isN_i, q_notN_n, q_notN_t, q_notN_i, q_eqS, q_neS, q_all, q_any, q_sum, q_tuple, q_listT, q_listL, q_idI, q_gcd, q_min2, q_isB, q_notB, Bool.not_true, Bool.not_false, Bool.not_not, at1_0, ixN1_0, at2_0, ixN2_0, at2_1, ixN2_1, at3_0, ixN3_0, at3_1, ixN3_1, at3_2, ixN3_2, at4_0, ixN4_0, at4_1, ixN4_1, at4_2, ixN4_2, at4_3, ixN4_3, at5_0, ixN5_0, at5_1, ixN5_1, at5_2, ixN5_2, at5_3, ixN5_3, at5_4, ixN5_4, at6_0, ixN6_0, at6_1, ixN6_1, at6_2, ixN6_2, at6_3, ixN6_3, at6_4, ixN6_4, at6_5, ixN6_5, ln0, ln1, ln2, ln3, ln4, ln5, ln6, ln7, ln8, ln9, ln10, ln11, ln12, ln13, ln14, ln15, ln16, ln17, ln18, ln19, ln20, ln21, ln22, ln23, ln24, nc0, nc1, nc2, nc3, nc4, nc5, nc6, nc7, nc8, nc9, nc10, nc11, nc12, nc13, nc14, nc15, nc16, false_imp_iff, implies_true, beq_self_eq_true, Int.reduceBEq, Int.reduceLT, Int.reduceLE, decide_true, decide_false, List.all_cons, List.all_nil, List.any_cons, List.any_nil, id_eq, Bool.and_true, Bool.true_and, Bool.and_false, Bool.false_and, Bool.or_true, Bool.true_or, Bool.or_false, Bool.false_or, decide_eq_false h, q_mul m1, q_mod n1]
      simp only [v_var, v_lit, v_op, v_tup, v_lst, v_and, v_or, v_ite, v_chain, v_call, v_comp, v_mut, v_met, vs_nil, vs_cons, x_asg, x_asgT, x_set, x_unp, x_par, x_aug, x_if, x_ifl, frzE_nil, frzE_cons, frzSl_un, frzSl_d, frzSl_own, x_whl, x_for, x_ret, x_retN, x_expr, x_brk, x_cont, x_pass, xs_nil, xs_cons, lockA, unlockA, evCond, rdAs, rdA, boolA, bd, frz, frzs, frzR, slA, slAs, refs, postA, keepA, keepAs, g_nm', g_tp', g_sb', gs_nil', gs_cons', isOwn, isSet, isLs, setAt, putN_eq, fr_d, fr_un, fr_own0, slT, asD, retT, n_nm, n_tp, n_tl, ns_nil, ns_cons, augF, augI, items, mutKeeps, mutF, pick, List.filterMap_cons, List.filterMap_nil, List.getElem?_cons_zero, List.getElem?_cons_succ, List.getElem?_nil, List.length_cons, List.length_nil, List.cons_append, List.nil_append, List.replicate, List.map_cons, List.map_nil, List.set_cons_zero, List.set_cons_succ, List.take_succ_cons, List.take_zero, Option.map_some, Nat.le_refl, Nat.zero_add, Nat.reduceAdd, Nat.reduceSub, Nat.reduceLeDiff, Nat.reduceEqDiff, if_true, if_false, Bool.false_eq_true, reduceIte, List.nodup_nil, List.nodup_cons, List.not_mem_nil, not_false_eq_true, and_true, true_and, List.mem_cons, or_false, or_self, forall_eq, forall_eq_or_imp,  Nat.le_add_left, Nat.zero_le, q_add, q_sub, q_neg, q_no, q_eq, q_ne, q_lt, q_le, q_gt, q_ge, q_toInt, q_abs, q_max2, q_lenL, q_lenS, q_lenT, q_ixL, q_ixT, q_ixS, q_isi_ii, q_isi_bi, q_isi_ib, q_isi_bb, q_isi_tt, q_isi_ll, q_isi_lt, q_isi_tl, q_isN_n, q_isN_t, q_isN_i, q_notN_n, q_notN_t, q_notN_i, q_eqS, q_neS, q_all, q_any, q_sum, q_tuple, q_listT, q_listL, q_idI, q_gcd, q_min2, q_isB, q_notB, Bool.not_true, Bool.not_false, Bool.not_not, at1_0, ixN1_0, at2_0, ixN2_0, at2_1, ixN2_1, at3_0, ixN3_0, at3_1, ixN3_1, at3_2, ixN3_2, at4_0, ixN4_0, at4_1, ixN4_1, at4_2, ixN4_2, at4_3, ixN4_3, at5_0, ixN5_0, at5_1, ixN5_1, at5_2, ixN5_2, at5_3, ixN5_3, at5_4, ixN5_4, at6_0, ixN6_0, at6_1, ixN6_1, at6_2, ixN6_2, at6_3, ixN6_3, at6_4, ixN6_4, at6_5, ixN6_5, ln0, ln1, ln2, ln3, ln4, ln5, ln6, ln7, ln8, ln9, ln10, ln11, ln12, ln13, ln14, ln15, ln16, ln17, ln18, ln19, ln20, ln21, ln22, ln23, ln24, nc0, nc1, nc2, nc3, nc4, nc5, nc6, nc7, nc8, nc9, nc10, nc11, nc12, nc13, nc14, nc15, nc16, false_imp_iff, implies_true, beq_self_eq_true, Int.reduceBEq, Int.reduceLT, Int.reduceLE, decide_true, decide_false, List.all_cons, List.all_nil, List.any_cons, List.any_nil, id_eq, Bool.and_true, Bool.true_and, Bool.and_false, Bool.false_and, Bool.or_true, Bool.true_or, Bool.or_false, Bool.false_or, show (b * 39373 + 17).fmod 2147483647 = b' from rfl, q_mul m2, q_mod n2, q_fdiv d1, q_mod n3]
theorem atI_nat {xs : List D} {i : Nat} (h : i < xs.length) : atI xs (i : Int) = some xs[i] := by
  unfold atI ixN L2.ixN
  simp [h]
theorem atI_int {xs : List D} {i : Int} (h0 : 0 ≤ i) (h : i < xs.length) : ∃ x, atI xs i = some x ∧ x ∈ xs := by
  obtain ⟨n, rfl⟩ := Int.eq_ofNat_of_zero_le h0
  have hn : n < xs.length := by omega
  exact ⟨xs[n], atI_nat hn, List.getElem_mem hn⟩
/-- one of a written list -/
theorem pick_ok {tb : List Fi} {fd fp : Nat} (hd : tb[fd]? = some tDraw) (hp : tb[fp]? = some (tPick fd)) (k : Nat) {P : List D} (hP : PotOk P) {xs : List D} (h0 : 0 < xs.length) (h1 : xs.length < 1000) :
    ∃ x P', PotOk P' ∧ x ∈ xs ∧ callAt tb (k + 2) fp [.own P 1, .own xs 0] = some (.d x, [.own P' 1, .own xs 0]) := by
  obtain ⟨d, P', hP', d0, d1, e⟩ := draw_ok hd k hP (m := xs.length) (by omega) (by omega)
  obtain ⟨x, e2, hx⟩ := atI_int (xs := xs) d0 d1
  refine ⟨x, P', hP', hx, ?_⟩
  rw [cS, hp, bd]
  unfold tPick runF
  simp only [v_var, v_lit, v_op, v_tup, v_lst, v_and, v_or, v_ite, v_chain, v_call, v_comp, v_mut, v_met, vs_nil, vs_cons, x_asg, x_asgT, x_set, x_unp, x_par, x_aug, x_if, x_ifl, frzE_nil, frzE_cons, frzSl_un, frzSl_d, frzSl_own, x_whl, x_for, x_ret, x_retN, x_expr, x_brk, x_cont, x_pass, xs_nil, xs_cons, lockA, unlockA, evCond, rdAs, rdA, boolA, bd, frz, frzs, frzR, slA, slAs, refs, postA, keepA, keepAs, g_nm', g_tp', g_sb', gs_nil', gs_cons', isOwn, isSet, isLs, setAt, putN_eq, fr_d, fr_un, fr_own0, slT, asD, retT, n_nm, n_tp, n_tl, ns_nil, ns_cons, augF, augI, items, mutKeeps, mutF, pick, List.filterMap_cons, List.filterMap_nil, List.getElem?_cons_zero, List.getElem?_cons_succ, List.getElem?_nil, List.length_cons, List.length_nil, List.cons_append, List.nil_append, List.replicate, List.map_cons, List.map_nil, List.set_cons_zero, List.set_cons_succ, List.take_succ_cons, List.take_zero, Option.map_some, Nat.le_refl, Nat.zero_add, Nat.reduceAdd, Nat.reduceSub, Nat.reduceLeDiff, Nat.reduceEqDiff, if_true, if_false, Bool.false_eq_true, reduceIte, List.nodup_nil, List.nodup_cons, List.not_mem_nil, not_false_eq_true, and_true, true_and, List.mem_cons, or_false, or_self, forall_eq, forall_eq_or_imp,  Nat.le_add_left, Nat.zero_le, q_add, q_sub, q_neg, q_no, q_eq, q_ne, q_lt, q_le, q_gt, q_ge, q_toInt, q_abs, q_max2, q_lenL, q_lenS, q_lenT, q_ixL, q_ixT, q_ixS, q_isi_ii, q_isi_bi, q_isi_ib, q_isi_bb, q_isi_tt, q_isi_ll, q_isi_lt, q_isi_tl, q_isN_n, q_isN_t, q_isN_i, q_notN_n, q_notN_t, q_notN_i, q_eqS, q_neS, q_all, q_any, q_sum, q_tuple, q_listT, q_listL, q_idI, q_gcd, q_min2, q_isB, q_notB, Bool.not_true, Bool.not_false, Bool.not_not, at1_0, ixN1_0, at2_0, ixN2_0, at2_1, ixN2_1, at3_0, ixN3_0, at3_1, ixN3_1, at3_2, ixN3_2, at4_0, ixN4_0, at4_1, ixN4_1, at4_2, ixN4_2, at4_3, ixN4_3, at5_0, ixN5_0, at5_1, ixN5_1, at5_2, ixN5_2, at5_3, ixN5_3, at5_4, ixN5_4, at6_0, ixN6_0, at6_1, ixN6_1, at6_2, ixN6_2, at6_3, ixN6_3, at6_4, ixN6_4, at6_5, ixN6_5, ln0, ln1, ln2, ln3, ln4, ln5, ln6, ln7, ln8, ln9, ln10, ln11, ln12, ln13, ln14, ln15, ln16, ln17, ln18, ln19, ln20, ln21, ln22, ln23, ln24, nc0, nc1, nc2, nc3, nc4, nc5, nc6, nc7, nc8, nc9, nc10, nc11, nc12, nc13, nc14, nc15, nc16, false_imp_iff, implies_true, beq_self_eq_true, Int.reduceBEq, Int.reduceLT, Int.reduceLE, decide_true, decide_false, List.all_cons, List.all_nil, List.any_cons, List.any_nil, id_eq, Bool.and_true, Bool.true_and, Bool.and_false, Bool.false_and, Bool.or_true, Bool.true_or, Bool.or_false, Bool.false_or, e, e2]
theorem pick_okD {tb : List Fi} {fd fp : Nat} (hd : tb[fd]? = some tDraw) (hp : tb[fp]? = some (tPick fd)) (k : Nat) {P : List D} (hP : PotOk P) {xs : List D} (h0 : 0 < xs.length) (h1 : xs.length < 1000) :
    ∃ x P', PotOk P' ∧ x ∈ xs ∧ callAt tb (k + 2) fp [.own P 1, .d (.lst xs)] = some (.d x, [.own P' 1, .d (.lst xs)]) := by
  obtain ⟨d, P', hP', d0, d1, e⟩ := draw_ok hd k hP (m := xs.length) (by omega) (by omega)
  obtain ⟨x, e2, hx⟩ := atI_int (xs := xs) d0 d1
  refine ⟨x, P', hP', hx, ?_⟩
  rw [cS, hp, bd]
  unfold tPick runF
  simp only [v_var, v_lit, v_op, v_tup, v_lst, v_and, v_or, v_ite, v_chain, v_call, v_comp, v_mut, v_met, vs_nil, vs_cons, x_asg, x_asgT, x_set, x_unp, x_par, x_aug, x_if, x_ifl, frzE_nil, frzE_cons, frzSl_un, frzSl_d, frzSl_own, x_whl, x_for, x_ret, x_retN, x_expr, x_brk, x_cont, x_pass, xs_nil, xs_cons, lockA, unlockA, evCond, rdAs, rdA, boolA, bd, frz, frzs, frzR, slA, slAs, refs, postA, keepA, keepAs, g_nm', g_tp', g_sb', gs_nil', gs_cons', isOwn, isSet, isLs, setAt, putN_eq, fr_d, fr_un, fr_own0, slT, asD, retT, n_nm, n_tp, n_tl, ns_nil, ns_cons, augF, augI, items, mutKeeps, mutF, pick, List.filterMap_cons, List.filterMap_nil, List.getElem?_cons_zero, List.getElem?_cons_succ, List.getElem?_nil, List.length_cons, List.length_nil, List.cons_append, List.nil_append, List.replicate, List.map_cons, List.map_nil, List.set_cons_zero, List.set_cons_succ, List.take_succ_cons, List.take_zero, Option.map_some, Nat.le_refl, Nat.zero_add, Nat.reduceAdd, Nat.reduceSub, Nat.reduceLeDiff, Nat.reduceEqDiff, if_true, if_false, Bool.false_eq_true, reduceIte, List.nodup_nil, List.nodup_cons, List.not_mem_nil, not_false_eq_true, and_true, true_and, List.mem_cons, or_false, or_self, forall_eq, forall_eq_or_imp,  Nat.le_add_left, Nat.zero_le, q_add, q_sub, q_neg, q_no, q_eq, q_ne, q_lt, q_le, q_gt, q_ge, q_toInt, q_abs, q_max2, q_lenL, q_lenS, q_lenT, q_ixL, q_ixT, q_ixS, q_isi_ii, q_isi_bi, q_isi_ib, q_isi_bb, q_isi_tt, q_isi_ll, q_isi_lt, q_isi_tl, q_isN_n, q_isN_t, q_isN_i, q_notN_n, q_notN_t, q_notN_i, q_eqS, q_neS, q_all, q_any, q_sum, q_tuple, q_listT, q_listL, q_idI, q_gcd, q_min2, q_isB, q_notB, Bool.not_true, Bool.not_false, Bool.not_not, at1_0, ixN1_0, at2_0, ixN2_0, at2_1, ixN2_1, at3_0, ixN3_0, at3_1, ixN3_1, at3_2, ixN3_2, at4_0, ixN4_0, at4_1, ixN4_1, at4_2, ixN4_2, at4_3, ixN4_3, at5_0, ixN5_0, at5_1, ixN5_1, at5_2, ixN5_2, at5_3, ixN5_3, at5_4, ixN5_4, at6_0, ixN6_0, at6_1, ixN6_1, at6_2, ixN6_2, at6_3, ixN6_3, at6_4, ixN6_4, at6_5, ixN6_5, ln0, ln1, ln2, ln3, ln4, ln5, ln6, ln7, ln8, ln9, ln10, ln11, ln12, ln13, ln14, ln15, ln16, ln17, ln18, ln19, ln20, ln21, ln22, ln23, ln24, nc0, nc1, nc2, nc3, nc4, nc5, nc6, nc7, nc8, nc9, nc10, nc11, nc12, nc13, nc14, nc15, nc16, false_imp_iff, implies_true, beq_self_eq_true, Int.reduceBEq, Int.reduceLT, Int.reduceLE, decide_true, decide_false, List.all_cons, List.all_nil, List.any_cons, List.any_nil, id_eq, Bool.and_true, Bool.true_and, Bool.and_false, Bool.false_and, Bool.or_true, Bool.true_or, Bool.or_false, Bool.false_or, e, e2]
/-- a for whose body keeps I -/
theorem for_inv {body : D → En → Option Fl} (I : En → Prop) : ∀ {xs : List D}, (∀ x ∈ xs, ∀ en, I en → ∃ en', body x en = some (.nx en') ∧ I en') → ∀ {en : En}, I en → ∃ en', forL body xs en = some (.nx en') ∧ I en'
  | [], _, en, h => ⟨en, rfl, h⟩
  | x :: xs, hb, en, h => by
    obtain ⟨e1, h1, h2⟩ := hb x (List.mem_cons_self ..) en h
    obtain ⟨e2, h3, h4⟩ := for_inv I (fun y hy => hb y (List.mem_cons_of_mem _ hy)) h2
    exact ⟨e2, by rw [forL, h1]; exact h3, h4⟩
theorem range1_ok {a : Int} (h0 : 0 ≤ a) (h1 : a < 1000000) : wkL .range [.int a] = some (rangeD 0 a.toNat) := by
  show (if -(2 ^ 62) ≤ a ∧ a < 2 ^ 62 then some (rangeD 0 a.toNat) else none) = _
  rw [if_pos ⟨by omega, by omega⟩]
theorem number_ok {tb : List Fi} {fd fn : Nat} (hd : tb[fd]? = some tDraw) (hn : tb[fn]? = some (tNumber fd)) (k : Nat) {P : List D} (hP : PotOk P) :
    ∃ v P', PotOk P' ∧ 0 ≤ v ∧ v < 1000000000000000000000000000 ∧ callAt tb (k + 2) fn [.own P 1] = some (.d (.int v), [.own P' 1]) := by
  obtain ⟨d1, P1, hP1, a1, b1, e1⟩ := draw_ok hd k hP (m := 4) (by decide) (by decide)
  by_cases h : d1 = 0
  · obtain ⟨d2, P2, hP2, a2, b2, e2⟩ := draw_ok hd k hP1 (m := 13) (by decide) (by decide)
    refine ⟨d2, P2, hP2, a2, by omega, ?_⟩
    rw [cS, hn, bd]
    unfold tNumber runF
    simp only [v_var, v_lit, v_op, v_tup, v_lst, v_and, v_or, v_ite, v_chain, v_call, v_comp, v_mut, v_met, vs_nil, vs_cons, x_asg, x_asgT, x_set, x_unp, x_par, x_aug, x_if, x_ifl, frzE_nil, frzE_cons, frzSl_un, frzSl_d, frzSl_own, x_whl, x_for, x_ret, x_retN, x_expr, x_brk, x_cont, x_pass, xs_nil, xs_cons, lockA, unlockA, evCond, rdAs, rdA, boolA, bd, frz, frzs, frzR, slA, slAs, refs, postA, keepA, keepAs, g_nm', g_tp', g_sb', gs_nil', gs_cons', isOwn, isSet, isLs, setAt, putN_eq, fr_d, fr_un, fr_own0, slT, asD, retT, n_nm, n_tp, n_tl, ns_nil, ns_cons, augF, augI, items, mutKeeps, mutF, pick, List.filterMap_cons, List.filterMap_nil, List.getElem?_cons_zero, List.getElem?_cons_succ, List.getElem?_nil, List.length_cons, List.length_nil, List.cons_append, List.nil_append, List.replicate, List.map_cons, List.map_nil, List.set_cons_zero, List.set_cons_succ, List.take_succ_cons, List.take_zero, Option.map_some, Nat.le_refl, Nat.zero_add, Nat.reduceAdd, Nat.reduceSub, Nat.reduceLeDiff, Nat.reduceEqDiff, if_true, if_false, Bool.false_eq_true, reduceIte, List.nodup_nil, List.nodup_cons, List.not_mem_nil, not_false_eq_true, and_true, true_and, List.mem_cons, or_false, or_self, forall_eq, forall_eq_or_imp,  Nat.le_add_left, Nat.zero_le, q_add, q_sub, q_neg, q_no, q_eq, q_ne, q_lt, q_le, q_gt, q_ge, q_toInt, q_abs, q_max2, q_lenL, q_lenS, q_lenT, q_ixL, q_ixT, q_ixS, q_isi_ii, q_isi_bi, q_isi_ib, q_isi_bb, q_isi_tt, q_isi_ll, q_isi_lt, q_isi_tl, q_isN_n, q_isN_t, q_isN_i, q_notN_n, q_notN_t, q_notN_i, q_eqS, q_neS, q_all, q_any, q_sum, q_tuple, q_listT, q_listL, q_idI, q_gcd, q_min2, q_isB, q_notB, Bool.not_true, Bool.not_false, Bool.not_not, at1_0, ixN1_0, at2_0, ixN2_0, at2_1, ixN2_1, at3_0, ixN3_0, at3_1, ixN3_1, at3_2, ixN3_2, at4_0, ixN4_0, at4_1, ixN4_1, at4_2, ixN4_2, at4_3, ixN4_3, at5_0, ixN5_0, at5_1, ixN5_1, at5_2, ixN5_2, at5_3, ixN5_3, at5_4, ixN5_4, at6_0, ixN6_0, at6_1, ixN6_1, at6_2, ixN6_2, at6_3, ixN6_3, at6_4, ixN6_4, at6_5, ixN6_5, ln0, ln1, ln2, ln3, ln4, ln5, ln6, ln7, ln8, ln9, ln10, ln11, ln12, ln13, ln14, ln15, ln16, ln17, ln18, ln19, ln20, ln21, ln22, ln23, ln24, nc0, nc1, nc2, nc3, nc4, nc5, nc6, nc7, nc8, nc9, nc10, nc11, nc12, nc13, nc14, nc15, nc16, false_imp_iff, implies_true, beq_self_eq_true, Int.reduceBEq, Int.reduceLT, Int.reduceLE, decide_true, decide_false, List.all_cons, List.all_nil, List.any_cons, List.any_nil, id_eq, Bool.and_true, Bool.true_and, Bool.and_false, Bool.false_and, Bool.or_true, Bool.true_or, Bool.or_false, Bool.false_or, e1, e2, h, beq_self_eq_true]
  · have h' : (d1 == 0) = false := by rw [beq_eq_false_iff_ne]; exact h
    by_cases g : d1 = 1
    · obtain ⟨d2, P2, hP2, a2, b2, e2⟩ := draw_ok hd k hP1 (m := 1000) (by decide) (by decide)
      refine ⟨d2, P2, hP2, a2, by omega, ?_⟩
      rw [cS, hn, bd]
      unfold tNumber runF
      simp only [v_var, v_lit, v_op, v_tup, v_lst, v_and, v_or, v_ite, v_chain, v_call, v_comp, v_mut, v_met, vs_nil, vs_cons, x_asg, x_asgT, x_set, x_unp, x_par, x_aug, x_if, x_ifl, frzE_nil, frzE_cons, frzSl_un, frzSl_d, frzSl_own, x_whl, x_for, x_ret, x_retN, x_expr, x_brk, x_cont, x_pass, xs_nil, xs_cons, lockA, unlockA, evCond, rdAs, rdA, boolA, bd, frz, frzs, frzR, slA, slAs, refs, postA, keepA, keepAs, g_nm', g_tp', g_sb', gs_nil', gs_cons', isOwn, isSet, isLs, setAt, putN_eq, fr_d, fr_un, fr_own0, slT, asD, retT, n_nm, n_tp, n_tl, ns_nil, ns_cons, augF, augI, items, mutKeeps, mutF, pick, List.filterMap_cons, List.filterMap_nil, List.getElem?_cons_zero, List.getElem?_cons_succ, List.getElem?_nil, List.length_cons, List.length_nil, List.cons_append, List.nil_append, List.replicate, List.map_cons, List.map_nil, List.set_cons_zero, List.set_cons_succ, List.take_succ_cons, List.take_zero, Option.map_some, Nat.le_refl, Nat.zero_add, Nat.reduceAdd, Nat.reduceSub, Nat.reduceLeDiff, Nat.reduceEqDiff, if_true, if_false, Bool.false_eq_true, reduceIte, List.nodup_nil, List.nodup_cons, List.not_mem_nil, not_false_eq_true, and_true, true_and, List.mem_cons, or_false, or_self, forall_eq, forall_eq_or_imp,  Nat.le_add_left, Nat.zero_le, q_add, q_sub, q_neg, q_no, q_eq, q_ne, q_lt, q_le, q_gt, q_ge, q_toInt, q_abs, q_max2, q_lenL, q_lenS, q_lenT, q_ixL, q_ixT, q_ixS, q_isi_ii, q_isi_bi, q_isi_ib, q_isi_bb, q_isi_tt, q_isi_ll, q_isi_lt, q_isi_tl, q_isN_n, q_isN_t, q_isN_i, q_notN_n, q_notN_t, q_notN_i, q_eqS, q_neS, q_all, q_any, q_sum, q_tuple, q_listT, q_listL, q_idI, q_gcd, q_min2, q_isB, q_notB, Bool.not_true, Bool.not_false, Bool.not_not, at1_0, ixN1_0, at2_0, ixN2_0, at2_1, ixN2_1, at3_0, ixN3_0, at3_1, ixN3_1, at3_2, ixN3_2, at4_0, ixN4_0, at4_1, ixN4_1, at4_2, ixN4_2, at4_3, ixN4_3, at5_0, ixN5_0, at5_1, ixN5_1, at5_2, ixN5_2, at5_3, ixN5_3, at5_4, ixN5_4, at6_0, ixN6_0, at6_1, ixN6_1, at6_2, ixN6_2, at6_3, ixN6_3, at6_4, ixN6_4, at6_5, ixN6_5, ln0, ln1, ln2, ln3, ln4, ln5, ln6, ln7, ln8, ln9, ln10, ln11, ln12, ln13, ln14, ln15, ln16, ln17, ln18, ln19, ln20, ln21, ln22, ln23, ln24, nc0, nc1, nc2, nc3, nc4, nc5, nc6, nc7, nc8, nc9, nc10, nc11, nc12, nc13, nc14, nc15, nc16, false_imp_iff, implies_true, beq_self_eq_true, Int.reduceBEq, Int.reduceLT, Int.reduceLE, decide_true, decide_false, List.all_cons, List.all_nil, List.any_cons, List.any_nil, id_eq, Bool.and_true, Bool.true_and, Bool.and_false, Bool.false_and, Bool.or_true, Bool.true_or, Bool.or_false, Bool.false_or, e1, h', bd]
      simp only [v_var, v_lit, v_op, v_tup, v_lst, v_and, v_or, v_ite, v_chain, v_call, v_comp, v_mut, v_met, vs_nil, vs_cons, x_asg, x_asgT, x_set, x_unp, x_par, x_aug, x_if, x_ifl, frzE_nil, frzE_cons, frzSl_un, frzSl_d, frzSl_own, x_whl, x_for, x_ret, x_retN, x_expr, x_brk, x_cont, x_pass, xs_nil, xs_cons, lockA, unlockA, evCond, rdAs, rdA, boolA, bd, frz, frzs, frzR, slA, slAs, refs, postA, keepA, keepAs, g_nm', g_tp', g_sb', gs_nil', gs_cons', isOwn, isSet, isLs, setAt, putN_eq, fr_d, fr_un, fr_own0, slT, asD, retT, n_nm, n_tp, n_tl, ns_nil, ns_cons, augF, augI, items, mutKeeps, mutF, pick, List.filterMap_cons, List.filterMap_nil, List.getElem?_cons_zero, List.getElem?_cons_succ, List.getElem?_nil, List.length_cons, List.length_nil, List.cons_append, List.nil_append, List.replicate, List.map_cons, List.map_nil, List.set_cons_zero, List.set_cons_succ, List.take_succ_cons, List.take_zero, Option.map_some, Nat.le_refl, Nat.zero_add, Nat.reduceAdd, Nat.reduceSub, Nat.reduceLeDiff, Nat.reduceEqDiff, if_true, if_false, Bool.false_eq_true, reduceIte, List.nodup_nil, List.nodup_cons, List.not_mem_nil, not_false_eq_true, and_true, true_and, List.mem_cons, or_false, or_self, forall_eq, forall_eq_or_imp,  Nat.le_add_left, Nat.zero_le, q_add, q_sub, q_neg, q_no, q_eq, q_ne, q_lt, q_le, q_gt, q_ge, q_toInt, q_abs, q_max2, q_lenL, q_lenS, q_lenT, q_ixL, q_ixT, q_ixS, q_isi_ii, q_isi_bi, q_isi_ib, q_isi_bb, q_isi_tt, q_isi_ll, q_isi_lt, q_isi_tl, q_isN_n, q_isN_t, q_isN_i, q_notN_n, q_notN_t, q_notN_i, q_eqS, q_neS, q_all, q_any, q_sum, q_tuple, q_listT, q_listL, q_idI, q_gcd, q_min2, q_isB, q_notB, Bool.not_true, Bool.not_false, Bool.not_not, at1_0, ixN1_0, at2_0, ixN2_0, at2_1, ixN2_1, at3_0, ixN3_0, at3_1, ixN3_1, at3_2, ixN3_2, at4_0, ixN4_0, at4_1, ixN4_1, at4_2, ixN4_2, at4_3, ixN4_3, at5_0, ixN5_0, at5_1, ixN5_1, at5_2, ixN5_2, at5_3, ixN5_3, at5_4, ixN5_4, at6_0, ixN6_0, at6_1, ixN6_1, at6_2, ixN6_2, at6_3, ixN6_3, at6_4, ixN6_4, at6_5, ixN6_5, ln0, ln1, ln2, ln3, ln4, ln5, ln6, ln7, ln8, ln9, ln10, ln11, ln12, ln13, ln14, ln15, ln16, ln17, ln18, ln19, ln20, ln21, ln22, ln23, ln24, nc0, nc1, nc2, nc3, nc4, nc5, nc6, nc7, nc8, nc9, nc10, nc11, nc12, nc13, nc14, nc15, nc16, false_imp_iff, implies_true, beq_self_eq_true, Int.reduceBEq, Int.reduceLT, Int.reduceLE, decide_true, decide_false, List.all_cons, List.all_nil, List.any_cons, List.any_nil, id_eq, Bool.and_true, Bool.true_and, Bool.and_false, Bool.false_and, Bool.or_true, Bool.true_or, Bool.or_false, Bool.false_or, g, beq_self_eq_true, e2]
    · have g' : (d1 == 1) = false := by rw [beq_eq_false_iff_ne]; exact g
      obtain ⟨d2, P2, hP2, a2, b2, e2⟩ := draw_ok hd k hP1 (m := 2) (by decide) (by decide)
      -- a turn
      have turn : ∀ (x : D) (P : List D) (v : Int) (t : Sl) (kd : Int), PotOk P → 0 ≤ v → v < 1000000000000000000 → (∀ xs m, t ≠ .own xs m) → ∃ P' v', PotOk P' ∧ 0 ≤ v' ∧ v' < v * 1000000000 + 1000000000 ∧
          turnF (callAt tb (k + 1)) Fuel (.nm 3) [.asg (.nm 2) (.op .add [(.op .mul [(.var 2), (.lit (.int 1000000000))]), (.call fd [true, true] [0, 1] [(.var 0), (.lit (.int 1000000000))])])] x [.own P 1, .d (.int kd), .d (.int v), t] = some (.nx [.own P' 1, .d (.int kd), .d (.int v'), .d x]) := by
        intro x P v t kd hP h0 h1 ht
        obtain ⟨d3, P3, hP3, a3, b3, e3⟩ := draw_ok hd k hP (m := 1000000000) (by decide) (by decide)
        have m1 : mulOk v 1000000000 = true := mulOk_of (m := 60) (n := 30) (by omega) (by decide) (by decide) (by decide) (by decide)
        refine ⟨P3, v * 1000000000 + d3, hP3, by omega, by omega, ?_⟩
        unfold turnF
        cases t with
        | own xs m => exact absurd rfl (ht xs m)
        | un => simp only [v_var, v_lit, v_op, v_tup, v_lst, v_and, v_or, v_ite, v_chain, v_call, v_comp, v_mut, v_met, vs_nil, vs_cons, x_asg, x_asgT, x_set, x_unp, x_par, x_aug, x_if, x_ifl, frzE_nil, frzE_cons, frzSl_un, frzSl_d, frzSl_own, x_whl, x_for, x_ret, x_retN, x_expr, x_brk, x_cont, x_pass, xs_nil, xs_cons, lockA, unlockA, evCond, rdAs, rdA, boolA, bd, frz, frzs, frzR, slA, slAs, refs, postA, keepA, keepAs, g_nm', g_tp', g_sb', gs_nil', gs_cons', isOwn, isSet, isLs, setAt, putN_eq, fr_d, fr_un, fr_own0, slT, asD, retT, n_nm, n_tp, n_tl, ns_nil, ns_cons, augF, augI, items, mutKeeps, mutF, pick, List.filterMap_cons, List.filterMap_nil, List.getElem?_cons_zero, List.getElem?_cons_succ, List.getElem?_nil, List.length_cons, List.length_nil, List.cons_append, List.nil_append, List.replicate, List.map_cons, List.map_nil, List.set_cons_zero, List.set_cons_succ, List.take_succ_cons, List.take_zero, Option.map_some, Nat.le_refl, Nat.zero_add, Nat.reduceAdd, Nat.reduceSub, Nat.reduceLeDiff, Nat.reduceEqDiff, if_true, if_false, Bool.false_eq_true, reduceIte, List.nodup_nil, List.nodup_cons, List.not_mem_nil, not_false_eq_true, and_true, true_and, List.mem_cons, or_false, or_self, forall_eq, forall_eq_or_imp,  Nat.le_add_left, Nat.zero_le, q_add, q_sub, q_neg, q_no, q_eq, q_ne, q_lt, q_le, q_gt, q_ge, q_toInt, q_abs, q_max2, q_lenL, q_lenS, q_lenT, q_ixL, q_ixT, q_ixS, q_isi_ii, q_isi_bi, q_isi_ib, q_isi_bb, q_isi_tt, q_isi_ll, q_isi_lt, q_isi_tl, q_isN_n, q_isN_t, q_isN_i, q_notN_n, q_notN_t, q_notN_i, q_eqS, q_neS, q_all, q_any, q_sum, q_tuple, q_listT, q_listL, q_idI, q_gcd, q_min2, q_isB, q_notB, Bool.not_true, Bool.not_false, Bool.not_not, at1_0, ixN1_0, at2_0, ixN2_0, at2_1, ixN2_1, at3_0, ixN3_0, at3_1, ixN3_1, at3_2, ixN3_2, at4_0, ixN4_0, at4_1, ixN4_1, at4_2, ixN4_2, at4_3, ixN4_3, at5_0, ixN5_0, at5_1, ixN5_1, at5_2, ixN5_2, at5_3, ixN5_3, at5_4, ixN5_4, at6_0, ixN6_0, at6_1, ixN6_1, at6_2, ixN6_2, at6_3, ixN6_3, at6_4, ixN6_4, at6_5, ixN6_5, ln0, ln1, ln2, ln3, ln4, ln5, ln6, ln7, ln8, ln9, ln10, ln11, ln12, ln13, ln14, ln15, ln16, ln17, ln18, ln19, ln20, ln21, ln22, ln23, ln24, nc0, nc1, nc2, nc3, nc4, nc5, nc6, nc7, nc8, nc9, nc10, nc11, nc12, nc13, nc14, nc15, nc16, false_imp_iff, implies_true, beq_self_eq_true, Int.reduceBEq, Int.reduceLT, Int.reduceLE, decide_true, decide_false, List.all_cons, List.all_nil, List.any_cons, List.any_nil, id_eq, Bool.and_true, Bool.true_and, Bool.and_false, Bool.false_and, Bool.or_true, Bool.true_or, Bool.or_false, Bool.false_or, q_mul m1, e3]
        | d y => simp only [v_var, v_lit, v_op, v_tup, v_lst, v_and, v_or, v_ite, v_chain, v_call, v_comp, v_mut, v_met, vs_nil, vs_cons, x_asg, x_asgT, x_set, x_unp, x_par, x_aug, x_if, x_ifl, frzE_nil, frzE_cons, frzSl_un, frzSl_d, frzSl_own, x_whl, x_for, x_ret, x_retN, x_expr, x_brk, x_cont, x_pass, xs_nil, xs_cons, lockA, unlockA, evCond, rdAs, rdA, boolA, bd, frz, frzs, frzR, slA, slAs, refs, postA, keepA, keepAs, g_nm', g_tp', g_sb', gs_nil', gs_cons', isOwn, isSet, isLs, setAt, putN_eq, fr_d, fr_un, fr_own0, slT, asD, retT, n_nm, n_tp, n_tl, ns_nil, ns_cons, augF, augI, items, mutKeeps, mutF, pick, List.filterMap_cons, List.filterMap_nil, List.getElem?_cons_zero, List.getElem?_cons_succ, List.getElem?_nil, List.length_cons, List.length_nil, List.cons_append, List.nil_append, List.replicate, List.map_cons, List.map_nil, List.set_cons_zero, List.set_cons_succ, List.take_succ_cons, List.take_zero, Option.map_some, Nat.le_refl, Nat.zero_add, Nat.reduceAdd, Nat.reduceSub, Nat.reduceLeDiff, Nat.reduceEqDiff, if_true, if_false, Bool.false_eq_true, reduceIte, List.nodup_nil, List.nodup_cons, List.not_mem_nil, not_false_eq_true, and_true, true_and, List.mem_cons, or_false, or_self, forall_eq, forall_eq_or_imp,  Nat.le_add_left, Nat.zero_le, q_add, q_sub, q_neg, q_no, q_eq, q_ne, q_lt, q_le, q_gt, q_ge, q_toInt, q_abs, q_max2, q_lenL, q_lenS, q_lenT, q_ixL, q_ixT, q_ixS, q_isi_ii, q_isi_bi, q_isi_ib, q_isi_bb, q_isi_tt, q_isi_ll, q_isi_lt, q_isi_tl, q_isN_n, q_isN_t, q_isN_i, q_notN_n, q_notN_t, q_notN_i, q_eqS, q_neS, q_all, q_any, q_sum, q_tuple, q_listT, q_listL, q_idI, q_gcd, q_min2, q_isB, q_notB, Bool.not_true, Bool.not_false, Bool.not_not, at1_0, ixN1_0, at2_0, ixN2_0, at2_1, ixN2_1, at3_0, ixN3_0, at3_1, ixN3_1, at3_2, ixN3_2, at4_0, ixN4_0, at4_1, ixN4_1, at4_2, ixN4_2, at4_3, ixN4_3, at5_0, ixN5_0, at5_1, ixN5_1, at5_2, ixN5_2, at5_3, ixN5_3, at5_4, ixN5_4, at6_0, ixN6_0, at6_1, ixN6_1, at6_2, ixN6_2, at6_3, ixN6_3, at6_4, ixN6_4, at6_5, ixN6_5, ln0, ln1, ln2, ln3, ln4, ln5, ln6, ln7, ln8, ln9, ln10, ln11, ln12, ln13, ln14, ln15, ln16, ln17, ln18, ln19, ln20, ln21, ln22, ln23, ln24, nc0, nc1, nc2, nc3, nc4, nc5, nc6, nc7, nc8, nc9, nc10, nc11, nc12, nc13, nc14, nc15, nc16, false_imp_iff, implies_true, beq_self_eq_true, Int.reduceBEq, Int.reduceLT, Int.reduceLE, decide_true, decide_false, List.all_cons, List.all_nil, List.any_cons, List.any_nil, id_eq, Bool.and_true, Bool.true_and, Bool.and_false, Bool.false_and, Bool.or_true, Bool.true_or, Bool.or_false, Bool.false_or, q_mul m1, e3]
      have dd : d2 = 0 ∨ d2 = 1 := by omega
      obtain ⟨P3, v3, hP3, c3, c4, e3⟩ := turn (.int 0) P2 0 .un d1 hP2 (by decide) (by decide) (fun xs m z => by cases z)
      obtain ⟨P4, v4, hP4, c5, c6, e4⟩ := turn (.int 1) P3 v3 (.d (.int 0)) d1 hP3 c3 (by omega) (fun xs m z => by cases z)
      obtain ⟨P5, v5, hP5, c7, c8, e5⟩ := turn (.int 2) P4 v4 (.d (.int 1)) d1 hP4 c5 (by omega) (fun xs m z => by cases z)
      rcases dd with rfl | rfl
      · refine ⟨v4, P4, hP4, c5, by omega, ?_⟩
        have r2 : wkL .range [.int (2 + 0)] = some [.int 0, .int 1] := rfl
        rw [cS, hn, bd]
        unfold tNumber runF
        simp only [v_var, v_lit, v_op, v_tup, v_lst, v_and, v_or, v_ite, v_chain, v_call, v_comp, v_mut, v_met, vs_nil, vs_cons, x_asg, x_asgT, x_set, x_unp, x_par, x_aug, x_if, x_ifl, frzE_nil, frzE_cons, frzSl_un, frzSl_d, frzSl_own, x_whl, x_for, x_ret, x_retN, x_expr, x_brk, x_cont, x_pass, xs_nil, xs_cons, lockA, unlockA, evCond, rdAs, rdA, boolA, bd, frz, frzs, frzR, slA, slAs, refs, postA, keepA, keepAs, g_nm', g_tp', g_sb', gs_nil', gs_cons', isOwn, isSet, isLs, setAt, putN_eq, fr_d, fr_un, fr_own0, slT, asD, retT, n_nm, n_tp, n_tl, ns_nil, ns_cons, augF, augI, items, mutKeeps, mutF, pick, List.filterMap_cons, List.filterMap_nil, List.getElem?_cons_zero, List.getElem?_cons_succ, List.getElem?_nil, List.length_cons, List.length_nil, List.cons_append, List.nil_append, List.replicate, List.map_cons, List.map_nil, List.set_cons_zero, List.set_cons_succ, List.take_succ_cons, List.take_zero, Option.map_some, Nat.le_refl, Nat.zero_add, Nat.reduceAdd, Nat.reduceSub, Nat.reduceLeDiff, Nat.reduceEqDiff, if_true, if_false, Bool.false_eq_true, reduceIte, List.nodup_nil, List.nodup_cons, List.not_mem_nil, not_false_eq_true, and_true, true_and, List.mem_cons, or_false, or_self, forall_eq, forall_eq_or_imp,  Nat.le_add_left, Nat.zero_le, q_add, q_sub, q_neg, q_no, q_eq, q_ne, q_lt, q_le, q_gt, q_ge, q_toInt, q_abs, q_max2, q_lenL, q_lenS, q_lenT, q_ixL, q_ixT, q_ixS, q_isi_ii, q_isi_bi, q_isi_ib, q_isi_bb, q_isi_tt, q_isi_ll, q_isi_lt, q_isi_tl, q_isN_n, q_isN_t, q_isN_i, q_notN_n, q_notN_t, q_notN_i, q_eqS, q_neS, q_all, q_any, q_sum, q_tuple, q_listT, q_listL, q_idI, q_gcd, q_min2, q_isB, q_notB, Bool.not_true, Bool.not_false, Bool.not_not, at1_0, ixN1_0, at2_0, ixN2_0, at2_1, ixN2_1, at3_0, ixN3_0, at3_1, ixN3_1, at3_2, ixN3_2, at4_0, ixN4_0, at4_1, ixN4_1, at4_2, ixN4_2, at4_3, ixN4_3, at5_0, ixN5_0, at5_1, ixN5_1, at5_2, ixN5_2, at5_3, ixN5_3, at5_4, ixN5_4, at6_0, ixN6_0, at6_1, ixN6_1, at6_2, ixN6_2, at6_3, ixN6_3, at6_4, ixN6_4, at6_5, ixN6_5, ln0, ln1, ln2, ln3, ln4, ln5, ln6, ln7, ln8, ln9, ln10, ln11, ln12, ln13, ln14, ln15, ln16, ln17, ln18, ln19, ln20, ln21, ln22, ln23, ln24, nc0, nc1, nc2, nc3, nc4, nc5, nc6, nc7, nc8, nc9, nc10, nc11, nc12, nc13, nc14, nc15, nc16, false_imp_iff, implies_true, beq_self_eq_true, Int.reduceBEq, Int.reduceLT, Int.reduceLE, decide_true, decide_false, List.all_cons, List.all_nil, List.any_cons, List.any_nil, id_eq, Bool.and_true, Bool.true_and, Bool.and_false, Bool.false_and, Bool.or_true, Bool.true_or, Bool.or_false, Bool.false_or, e1, h', g', bd]
        simp only [v_var, v_lit, v_op, v_tup, v_lst, v_and, v_or, v_ite, v_chain, v_call, v_comp, v_mut, v_met, vs_nil, vs_cons, x_asg, x_asgT, x_set, x_unp, x_par, x_aug, x_if, x_ifl, frzE_nil, frzE_cons, frzSl_un, frzSl_d, frzSl_own, x_whl, x_for, x_ret, x_retN, x_expr, x_brk, x_cont, x_pass, xs_nil, xs_cons, lockA, unlockA, evCond, rdAs, rdA, boolA, bd, frz, frzs, frzR, slA, slAs, refs, postA, keepA, keepAs, g_nm', g_tp', g_sb', gs_nil', gs_cons', isOwn, isSet, isLs, setAt, putN_eq, fr_d, fr_un, fr_own0, slT, asD, retT, n_nm, n_tp, n_tl, ns_nil, ns_cons, augF, augI, items, mutKeeps, mutF, pick, List.filterMap_cons, List.filterMap_nil, List.getElem?_cons_zero, List.getElem?_cons_succ, List.getElem?_nil, List.length_cons, List.length_nil, List.cons_append, List.nil_append, List.replicate, List.map_cons, List.map_nil, List.set_cons_zero, List.set_cons_succ, List.take_succ_cons, List.take_zero, Option.map_some, Nat.le_refl, Nat.zero_add, Nat.reduceAdd, Nat.reduceSub, Nat.reduceLeDiff, Nat.reduceEqDiff, if_true, if_false, Bool.false_eq_true, reduceIte, List.nodup_nil, List.nodup_cons, List.not_mem_nil, not_false_eq_true, and_true, true_and, List.mem_cons, or_false, or_self, forall_eq, forall_eq_or_imp,  Nat.le_add_left, Nat.zero_le, q_add, q_sub, q_neg, q_no, q_eq, q_ne, q_lt, q_le, q_gt, q_ge, q_toInt, q_abs, q_max2, q_lenL, q_lenS, q_lenT, q_ixL, q_ixT, q_ixS, q_isi_ii, q_isi_bi, q_isi_ib, q_isi_bb, q_isi_tt, q_isi_ll, q_isi_lt, q_isi_tl, q_isN_n, q_isN_t, q_isN_i, q_notN_n, q_notN_t, q_notN_i, q_eqS, q_neS, q_all, q_any, q_sum, q_tuple, q_listT, q_listL, q_idI, q_gcd, q_min2, q_isB, q_notB, Bool.not_true, Bool.not_false, Bool.not_not, at1_0, ixN1_0, at2_0, ixN2_0, at2_1, ixN2_1, at3_0, ixN3_0, at3_1, ixN3_1, at3_2, ixN3_2, at4_0, ixN4_0, at4_1, ixN4_1, at4_2, ixN4_2, at4_3, ixN4_3, at5_0, ixN5_0, at5_1, ixN5_1, at5_2, ixN5_2, at5_3, ixN5_3, at5_4, ixN5_4, at6_0, ixN6_0, at6_1, ixN6_1, at6_2, ixN6_2, at6_3, ixN6_3, at6_4, ixN6_4, at6_5, ixN6_5, ln0, ln1, ln2, ln3, ln4, ln5, ln6, ln7, ln8, ln9, ln10, ln11, ln12, ln13, ln14, ln15, ln16, ln17, ln18, ln19, ln20, ln21, ln22, ln23, ln24, nc0, nc1, nc2, nc3, nc4, nc5, nc6, nc7, nc8, nc9, nc10, nc11, nc12, nc13, nc14, nc15, nc16, false_imp_iff, implies_true, beq_self_eq_true, Int.reduceBEq, Int.reduceLT, Int.reduceLE, decide_true, decide_false, List.all_cons, List.all_nil, List.any_cons, List.any_nil, id_eq, Bool.and_true, Bool.true_and, Bool.and_false, Bool.false_and, Bool.or_true, Bool.true_or, Bool.or_false, Bool.false_or, e2, r2, lockA]
        simp only [forL, e3, e4, v_var, v_lit, v_op, v_tup, v_lst, v_and, v_or, v_ite, v_chain, v_call, v_comp, v_mut, v_met, vs_nil, vs_cons, x_asg, x_asgT, x_set, x_unp, x_par, x_aug, x_if, x_ifl, frzE_nil, frzE_cons, frzSl_un, frzSl_d, frzSl_own, x_whl, x_for, x_ret, x_retN, x_expr, x_brk, x_cont, x_pass, xs_nil, xs_cons, lockA, unlockA, evCond, rdAs, rdA, boolA, bd, frz, frzs, frzR, slA, slAs, refs, postA, keepA, keepAs, g_nm', g_tp', g_sb', gs_nil', gs_cons', isOwn, isSet, isLs, setAt, putN_eq, fr_d, fr_un, fr_own0, slT, asD, retT, n_nm, n_tp, n_tl, ns_nil, ns_cons, augF, augI, items, mutKeeps, mutF, pick, List.filterMap_cons, List.filterMap_nil, List.getElem?_cons_zero, List.getElem?_cons_succ, List.getElem?_nil, List.length_cons, List.length_nil, List.cons_append, List.nil_append, List.replicate, List.map_cons, List.map_nil, List.set_cons_zero, List.set_cons_succ, List.take_succ_cons, List.take_zero, Option.map_some, Nat.le_refl, Nat.zero_add, Nat.reduceAdd, Nat.reduceSub, Nat.reduceLeDiff, Nat.reduceEqDiff, if_true, if_false, Bool.false_eq_true, reduceIte, List.nodup_nil, List.nodup_cons, List.not_mem_nil, not_false_eq_true, and_true, true_and, List.mem_cons, or_false, or_self, forall_eq, forall_eq_or_imp,  Nat.le_add_left, Nat.zero_le, q_add, q_sub, q_neg, q_no, q_eq, q_ne, q_lt, q_le, q_gt, q_ge, q_toInt, q_abs, q_max2, q_lenL, q_lenS, q_lenT, q_ixL, q_ixT, q_ixS, q_isi_ii, q_isi_bi, q_isi_ib, q_isi_bb, q_isi_tt, q_isi_ll, q_isi_lt, q_isi_tl, q_isN_n, q_isN_t, q_isN_i, q_notN_n, q_notN_t, q_notN_i, q_eqS, q_neS, q_all, q_any, q_sum, q_tuple, q_listT, q_listL, q_idI, q_gcd, q_min2, q_isB, q_notB, Bool.not_true, Bool.not_false, Bool.not_not, at1_0, ixN1_0, at2_0, ixN2_0, at2_1, ixN2_1, at3_0, ixN3_0, at3_1, ixN3_1, at3_2, ixN3_2, at4_0, ixN4_0, at4_1, ixN4_1, at4_2, ixN4_2, at4_3, ixN4_3, at5_0, ixN5_0, at5_1, ixN5_1, at5_2, ixN5_2, at5_3, ixN5_3, at5_4, ixN5_4, at6_0, ixN6_0, at6_1, ixN6_1, at6_2, ixN6_2, at6_3, ixN6_3, at6_4, ixN6_4, at6_5, ixN6_5, ln0, ln1, ln2, ln3, ln4, ln5, ln6, ln7, ln8, ln9, ln10, ln11, ln12, ln13, ln14, ln15, ln16, ln17, ln18, ln19, ln20, ln21, ln22, ln23, ln24, nc0, nc1, nc2, nc3, nc4, nc5, nc6, nc7, nc8, nc9, nc10, nc11, nc12, nc13, nc14, nc15, nc16, false_imp_iff, implies_true, beq_self_eq_true, Int.reduceBEq, Int.reduceLT, Int.reduceLE, decide_true, decide_false, List.all_cons, List.all_nil, List.any_cons, List.any_nil, id_eq, Bool.and_true, Bool.true_and, Bool.and_false, Bool.false_and, Bool.or_true, Bool.true_or, Bool.or_false, Bool.false_or]
      · refine ⟨v5, P5, hP5, c7, by omega, ?_⟩
        have r2 : wkL .range [.int (2 + 1)] = some [.int 0, .int 1, .int 2] := rfl
        rw [cS, hn, bd]
        unfold tNumber runF
        simp only [v_var, v_lit, v_op, v_tup, v_lst, v_and, v_or, v_ite, v_chain, v_call, v_comp, v_mut, v_met, vs_nil, vs_cons, x_asg, x_asgT, x_set, x_unp, x_par, x_aug, x_if, x_ifl, frzE_nil, frzE_cons, frzSl_un, frzSl_d, frzSl_own, x_whl, x_for, x_ret, x_retN, x_expr, x_brk, x_cont, x_pass, xs_nil, xs_cons, lockA, unlockA, evCond, rdAs, rdA, boolA, bd, frz, frzs, frzR, slA, slAs, refs, postA, keepA, keepAs, g_nm', g_tp', g_sb', gs_nil', gs_cons', isOwn, isSet, isLs, setAt, putN_eq, fr_d, fr_un, fr_own0, slT, asD, retT, n_nm, n_tp, n_tl, ns_nil, ns_cons, augF, augI, items, mutKeeps, mutF, pick, List.filterMap_cons, List.filterMap_nil, List.getElem?_cons_zero, List.getElem?_cons_succ, List.getElem?_nil, List.length_cons, List.length_nil, List.cons_append, List.nil_append, List.replicate, List.map_cons, List.map_nil, List.set_cons_zero, List.set_cons_succ, List.take_succ_cons, List.take_zero, Option.map_some, Nat.le_refl, Nat.zero_add, Nat.reduceAdd, Nat.reduceSub, Nat.reduceLeDiff, Nat.reduceEqDiff, if_true, if_false, Bool.false_eq_true, reduceIte, List.nodup_nil, List.nodup_cons, List.not_mem_nil, not_false_eq_true, and_true, true_and, List.mem_cons, or_false, or_self, forall_eq, forall_eq_or_imp,  Nat.le_add_left, Nat.zero_le, q_add, q_sub, q_neg, q_no, q_eq, q_ne, q_lt, q_le, q_gt, q_ge, q_toInt, q_abs, q_max2, q_lenL, q_lenS, q_lenT, q_ixL, q_ixT, q_ixS, q_isi_ii, q_isi_bi, q_isi_ib, q_isi_bb, q_isi_tt, q_isi_ll, q_isi_lt, q_isi_tl, q_isN_n, q_isN_t, q_isN_i, q_notN_n, q_notN_t, q_notN_i, q_eqS, q_neS, q_all, q_any, q_sum, q_tuple, q_listT, q_listL, q_idI, q_gcd, q_min2, q_isB, q_notB, Bool.not_true, Bool.not_false, Bool.not_not, at1_0, ixN1_0, at2_0, ixN2_0, at2_1, ixN2_1, at3_0, ixN3_0, at3_1, ixN3_1, at3_2, ixN3_2, at4_0, ixN4_0, at4_1, ixN4_1, at4_2, ixN4_2, at4_3, ixN4_3, at5_0, ixN5_0, at5_1, ixN5_1, at5_2, ixN5_2, at5_3, ixN5_3, at5_4, ixN5_4, at6_0, ixN6_0, at6_1, ixN6_1, at6_2, ixN6_2, at6_3, ixN6_3, at6_4, ixN6_4, at6_5, ixN6_5, ln0, ln1, ln2, ln3, ln4, ln5, ln6, ln7, ln8, ln9, ln10, ln11, ln12, ln13, ln14, ln15, ln16, ln17, ln18, ln19, ln20, ln21, ln22, ln23, ln24, nc0, nc1, nc2, nc3, nc4, nc5, nc6, nc7, nc8, nc9, nc10, nc11, nc12, nc13, nc14, nc15, nc16, false_imp_iff, implies_true, beq_self_eq_true, Int.reduceBEq, Int.reduceLT, Int.reduceLE, decide_true, decide_false, List.all_cons, List.all_nil, List.any_cons, List.any_nil, id_eq, Bool.and_true, Bool.true_and, Bool.and_false, Bool.false_and, Bool.or_true, Bool.true_or, Bool.or_false, Bool.false_or, e1, h', g', bd]
        simp only [v_var, v_lit, v_op, v_tup, v_lst, v_and, v_or, v_ite, v_chain, v_call, v_comp, v_mut, v_met, vs_nil, vs_cons, x_asg, x_asgT, x_set, x_unp, x_par, x_aug, x_if, x_ifl, frzE_nil, frzE_cons, frzSl_un, frzSl_d, frzSl_own, x_whl, x_for, x_ret, x_retN, x_expr, x_brk, x_cont, x_pass, xs_nil, xs_cons, lockA, unlockA, evCond, rdAs, rdA, boolA, bd, frz, frzs, frzR, slA, slAs, refs, postA, keepA, keepAs, g_nm', g_tp', g_sb', gs_nil', gs_cons', isOwn, isSet, isLs, setAt, putN_eq, fr_d, fr_un, fr_own0, slT, asD, retT, n_nm, n_tp, n_tl, ns_nil, ns_cons, augF, augI, items, mutKeeps, mutF, pick, List.filterMap_cons, List.filterMap_nil, List.getElem?_cons_zero, List.getElem?_cons_succ, List.getElem?_nil, List.length_cons, List.length_nil, List.cons_append, List.nil_append, List.replicate, List.map_cons, List.map_nil, List.set_cons_zero, List.set_cons_succ, List.take_succ_cons, List.take_zero, Option.map_some, Nat.le_refl, Nat.zero_add, Nat.reduceAdd, Nat.reduceSub, Nat.reduceLeDiff, Nat.reduceEqDiff, if_true, if_false, Bool.false_eq_true, reduceIte, List.nodup_nil, List.nodup_cons, List.not_mem_nil, not_false_eq_true, and_true, true_and, List.mem_cons, or_false, or_self, forall_eq, forall_eq_or_imp,  Nat.le_add_left, Nat.zero_le, q_add, q_sub, q_neg, q_no, q_eq, q_ne, q_lt, q_le, q_gt, q_ge, q_toInt, q_abs, q_max2, q_lenL, q_lenS, q_lenT, q_ixL, q_ixT, q_ixS, q_isi_ii, q_isi_bi, q_isi_ib, q_isi_bb, q_isi_tt, q_isi_ll, q_isi_lt, q_isi_tl, q_isN_n, q_isN_t, q_isN_i, q_notN_n, q_notN_t, q_notN_i, q_eqS, q_neS, q_all, q_any, q_sum, q_tuple, q_listT, q_listL, q_idI, q_gcd, q_min2, q_isB, q_notB, Bool.not_true, Bool.not_false, Bool.not_not, at1_0, ixN1_0, at2_0, ixN2_0, at2_1, ixN2_1, at3_0, ixN3_0, at3_1, ixN3_1, at3_2, ixN3_2, at4_0, ixN4_0, at4_1, ixN4_1, at4_2, ixN4_2, at4_3, ixN4_3, at5_0, ixN5_0, at5_1, ixN5_1, at5_2, ixN5_2, at5_3, ixN5_3, at5_4, ixN5_4, at6_0, ixN6_0, at6_1, ixN6_1, at6_2, ixN6_2, at6_3, ixN6_3, at6_4, ixN6_4, at6_5, ixN6_5, ln0, ln1, ln2, ln3, ln4, ln5, ln6, ln7, ln8, ln9, ln10, ln11, ln12, ln13, ln14, ln15, ln16, ln17, ln18, ln19, ln20, ln21, ln22, ln23, ln24, nc0, nc1, nc2, nc3, nc4, nc5, nc6, nc7, nc8, nc9, nc10, nc11, nc12, nc13, nc14, nc15, nc16, false_imp_iff, implies_true, beq_self_eq_true, Int.reduceBEq, Int.reduceLT, Int.reduceLE, decide_true, decide_false, List.all_cons, List.all_nil, List.any_cons, List.any_nil, id_eq, Bool.and_true, Bool.true_and, Bool.and_false, Bool.false_and, Bool.or_true, Bool.true_or, Bool.or_false, Bool.false_or, e2, r2, lockA]
        simp only [forL, e3, e4, e5, v_var, v_lit, v_op, v_tup, v_lst, v_and, v_or, v_ite, v_chain, v_call, v_comp, v_mut, v_met, vs_nil, vs_cons, x_asg, x_asgT, x_set, x_unp, x_par, x_aug, x_if, x_ifl, frzE_nil, frzE_cons, frzSl_un, frzSl_d, frzSl_own, x_whl, x_for, x_ret, x_retN, x_expr, x_brk, x_cont, x_pass, xs_nil, xs_cons, lockA, unlockA, evCond, rdAs, rdA, boolA, bd, frz, frzs, frzR, slA, slAs, refs, postA, keepA, keepAs, g_nm', g_tp', g_sb', gs_nil', gs_cons', isOwn, isSet, isLs, setAt, putN_eq, fr_d, fr_un, fr_own0, slT, asD, retT, n_nm, n_tp, n_tl, ns_nil, ns_cons, augF, augI, items, mutKeeps, mutF, pick, List.filterMap_cons, List.filterMap_nil, List.getElem?_cons_zero, List.getElem?_cons_succ, List.getElem?_nil, List.length_cons, List.length_nil, List.cons_append, List.nil_append, List.replicate, List.map_cons, List.map_nil, List.set_cons_zero, List.set_cons_succ, List.take_succ_cons, List.take_zero, Option.map_some, Nat.le_refl, Nat.zero_add, Nat.reduceAdd, Nat.reduceSub, Nat.reduceLeDiff, Nat.reduceEqDiff, if_true, if_false, Bool.false_eq_true, reduceIte, List.nodup_nil, List.nodup_cons, List.not_mem_nil, not_false_eq_true, and_true, true_and, List.mem_cons, or_false, or_self, forall_eq, forall_eq_or_imp,  Nat.le_add_left, Nat.zero_le, q_add, q_sub, q_neg, q_no, q_eq, q_ne, q_lt, q_le, q_gt, q_ge, q_toInt, q_abs, q_max2, q_lenL, q_lenS, q_lenT, q_ixL, q_ixT, q_ixS, q_isi_ii, q_isi_bi, q_isi_ib, q_isi_bb, q_isi_tt, q_isi_ll, q_isi_lt, q_isi_tl, q_isN_n, q_isN_t, q_isN_i, q_notN_n, q_notN_t, q_notN_i, q_eqS, q_neS, q_all, q_any, q_sum, q_tuple, q_listT, q_listL, q_idI, q_gcd, q_min2, q_isB, q_notB, Bool.not_true, Bool.not_false, Bool.not_not, at1_0, ixN1_0, at2_0, ixN2_0, at2_1, ixN2_1, at3_0, ixN3_0, at3_1, ixN3_1, at3_2, ixN3_2, at4_0, ixN4_0, at4_1, ixN4_1, at4_2, ixN4_2, at4_3, ixN4_3, at5_0, ixN5_0, at5_1, ixN5_1, at5_2, ixN5_2, at5_3, ixN5_3, at5_4, ixN5_4, at6_0, ixN6_0, at6_1, ixN6_1, at6_2, ixN6_2, at6_3, ixN6_3, at6_4, ixN6_4, at6_5, ixN6_5, ln0, ln1, ln2, ln3, ln4, ln5, ln6, ln7, ln8, ln9, ln10, ln11, ln12, ln13, ln14, ln15, ln16, ln17, ln18, ln19, ln20, ln21, ln22, ln23, ln24, nc0, nc1, nc2, nc3, nc4, nc5, nc6, nc7, nc8, nc9, nc10, nc11, nc12, nc13, nc14, nc15, nc16, false_imp_iff, implies_true, beq_self_eq_true, Int.reduceBEq, Int.reduceLT, Int.reduceLE, decide_true, decide_false, List.all_cons, List.all_nil, List.any_cons, List.any_nil, id_eq, Bool.and_true, Bool.true_and, Bool.and_false, Bool.false_and, Bool.or_true, Bool.true_or, Bool.or_false, Bool.false_or]
/-! ### the pot of a script -/
def tPot : Fi := ⟨1, 4, [
  .asg (.nm 1) (.lit (.int 6173)),
  .for (.nm 2) .seq [(.var 0)] [.asg (.nm 1) (.op .mod [(.op .toInt [(.op .add [(.op .add [(.op .mul [(.var 1), (.lit (.int 34183))]), (.op .mod [(.op .toInt [(.var 2)]), (.lit (.int 2147483579))])]), (.lit (.int 74821))])]), (.lit (.int 2147483629))])],
  .asg (.nm 3) (.ite (.op .gt [(.op .len [(.var 0)]), (.lit (.int 0))]) (.op .abs [(.op .ix [(.var 0), (.lit (.int 0))])]) (.lit (.int 0))),
  .ret (.lst [(.op .max2 [(.lit (.int 0)), (.op .sub [(.var 3), (.op .pow [(.lit (.int 10)), (.lit (.int 18))])])]), (.op .add [(.var 1), (.lit (.int 1))])])]⟩
theorem pot_ok {tb : List Fi} {fp : Nat} (hp : tb[fp]? = some tPot) (k : Nat) (ns : List Int) : ∃ P, PotOk P ∧ callAt tb (k + 1) fp [.d (.scr ns)] = some (.fr P, [.d (.scr ns)]) := by
  have w1 : wkL .seq [.scr ns] = some (ns.map .int) := rfl
  have n1 : ((2147483579 : Int) != 0) = true := by decide
  have n2 : ((2147483629 : Int) != 0) = true := by decide
  obtain ⟨en, h1, f, s, rfl, f0, f1, hs⟩ := for_inv (body := turnF (callAt tb k) Fuel (.nm 2) [.asg (.nm 1) (.op .mod [(.op .toInt [(.op .add [(.op .add [(.op .mul [(.var 1), (.lit (.int 34183))]), (.op .mod [(.op .toInt [(.var 2)]), (.lit (.int 2147483579))])]), (.lit (.int 74821))])]), (.lit (.int 2147483629))])])
    (fun en => ∃ (f : Int) (s : Sl), en = [Sl.d (.scr ns), .d (.int f), s, .un] ∧ 0 ≤ f ∧ f < 2147483629 ∧ frS (some s) = true) (xs := ns.map .int) (fun x hx en ⟨f, s, e, f0, f1, hs⟩ => by
      obtain ⟨c, _, rfl⟩ := List.mem_map.mp hx
      subst e
      have m1 : mulOk f 34183 = true := mulOk_of (m := 32) (n := 16) (by omega) (by decide) (by decide) (by decide) (by decide)
      refine ⟨[.d (.scr ns), .d (.int ((f * 34183 + c.fmod 2147483579 + 74821).fmod 2147483629)), .d (.int c), .un], ?_, (f * 34183 + c.fmod 2147483579 + 74821).fmod 2147483629, .d (.int c), rfl, ?_, ?_, fr_d (.int c)⟩
      · unfold turnF
        simp only [v_var, v_lit, v_op, v_tup, v_lst, v_and, v_or, v_ite, v_chain, v_call, v_comp, v_mut, v_met, vs_nil, vs_cons, x_asg, x_asgT, x_set, x_unp, x_par, x_aug, x_if, x_ifl, frzE_nil, frzE_cons, frzSl_un, frzSl_d, frzSl_own, x_whl, x_for, x_ret, x_retN, x_expr, x_brk, x_cont, x_pass, xs_nil, xs_cons, lockA, unlockA, evCond, rdAs, rdA, boolA, bd, frz, frzs, frzR, slA, slAs, refs, postA, keepA, keepAs, g_nm', g_tp', g_sb', gs_nil', gs_cons', isOwn, isSet, isLs, setAt, putN_eq, fr_d, fr_un, fr_own0, slT, asD, retT, n_nm, n_tp, n_tl, ns_nil, ns_cons, augF, augI, items, mutKeeps, mutF, pick, List.filterMap_cons, List.filterMap_nil, List.getElem?_cons_zero, List.getElem?_cons_succ, List.getElem?_nil, List.length_cons, List.length_nil, List.cons_append, List.nil_append, List.replicate, List.map_cons, List.map_nil, List.set_cons_zero, List.set_cons_succ, List.take_succ_cons, List.take_zero, Option.map_some, Nat.le_refl, Nat.zero_add, Nat.reduceAdd, Nat.reduceSub, Nat.reduceLeDiff, Nat.reduceEqDiff, if_true, if_false, Bool.false_eq_true, reduceIte, List.nodup_nil, List.nodup_cons, List.not_mem_nil, not_false_eq_true, and_true, true_and, List.mem_cons, or_false, or_self, forall_eq, forall_eq_or_imp,  Nat.le_add_left, Nat.zero_le, q_add, q_sub, q_neg, q_no, q_eq, q_ne, q_lt, q_le, q_gt, q_ge, q_toInt, q_abs, q_max2, q_lenL, q_lenS, q_lenT, q_ixL, q_ixT, q_ixS, q_isi_ii, q_isi_bi, q_isi_ib, q_isi_bb, q_isi_tt, q_isi_ll, q_isi_lt, q_isi_tl, q_isN_n, q_isN_t, q_isN_i, q_notN_n, q_notN_t, q_notN_i, q_eqS, q_neS, q_all, q_any, q_sum, q_tuple, q_listT, q_listL, q_idI, q_gcd, q_min2, q_isB, q_notB, Bool.not_true, Bool.not_false, Bool.not_not, at1_0, ixN1_0, at2_0, ixN2_0, at2_1, ixN2_1, at3_0, ixN3_0, at3_1, ixN3_1, at3_2, ixN3_2, at4_0, ixN4_0, at4_1, ixN4_1, at4_2, ixN4_2, at4_3, ixN4_3, at5_0, ixN5_0, at5_1, ixN5_1, at5_2, ixN5_2, at5_3, ixN5_3, at5_4, ixN5_4, at6_0, ixN6_0, at6_1, ixN6_1, at6_2, ixN6_2, at6_3, ixN6_3, at6_4, ixN6_4, at6_5, ixN6_5, ln0, ln1, ln2, ln3, ln4, ln5, ln6, ln7, ln8, ln9, ln10, ln11, ln12, ln13, ln14, ln15, ln16, ln17, ln18, ln19, ln20, ln21, ln22, ln23, ln24, nc0, nc1, nc2, nc3, nc4, nc5, nc6, nc7, nc8, nc9, nc10, nc11, nc12, nc13, nc14, nc15, nc16, false_imp_iff, implies_true, beq_self_eq_true, Int.reduceBEq, Int.reduceLT, Int.reduceLE, decide_true, decide_false, List.all_cons, List.all_nil, List.any_cons, List.any_nil, id_eq, Bool.and_true, Bool.true_and, Bool.and_false, Bool.false_and, Bool.or_true, Bool.true_or, Bool.or_false, Bool.false_or, hs, q_mul m1, q_mod n1, q_mod n2]
      · rw [Int.fmod_eq_emod_of_nonneg _ (by decide)]; exact Int.emod_nonneg _ (by decide)
      · rw [Int.fmod_eq_emod_of_nonneg _ (by decide)]; exact Int.emod_lt_of_pos _ (by decide)) (en := [.d (.scr ns), .d (.int 6173), .un, .un]) ⟨6173, .un, rfl, by decide, by decide, rfl⟩
  have pw : opF .pow [.int 10, .int 18] = some (.d (.int (10 ^ 18))) := rfl
  cases ns with
  | nil =>
    rw [List.map_nil] at h1 w1
    refine ⟨[.int (if (0 : Int) - 10 ^ 18 > 0 then 0 - 10 ^ 18 else 0), .int (f + 1)], ⟨_, _, rfl, by omega, by omega⟩, ?_⟩
    rw [cS, hp, bd]
    unfold tPot runF
    simp only [v_var, v_lit, v_op, v_tup, v_lst, v_and, v_or, v_ite, v_chain, v_call, v_comp, v_mut, v_met, vs_nil, vs_cons, x_asg, x_asgT, x_set, x_unp, x_par, x_aug, x_if, x_ifl, frzE_nil, frzE_cons, frzSl_un, frzSl_d, frzSl_own, x_whl, x_for, x_ret, x_retN, x_expr, x_brk, x_cont, x_pass, xs_nil, xs_cons, lockA, unlockA, evCond, rdAs, rdA, boolA, bd, frz, frzs, frzR, slA, slAs, refs, postA, keepA, keepAs, g_nm', g_tp', g_sb', gs_nil', gs_cons', isOwn, isSet, isLs, setAt, putN_eq, fr_d, fr_un, fr_own0, slT, asD, retT, n_nm, n_tp, n_tl, ns_nil, ns_cons, augF, augI, items, mutKeeps, mutF, pick, List.filterMap_cons, List.filterMap_nil, List.getElem?_cons_zero, List.getElem?_cons_succ, List.getElem?_nil, List.length_cons, List.length_nil, List.cons_append, List.nil_append, List.replicate, List.map_cons, List.map_nil, List.set_cons_zero, List.set_cons_succ, List.take_succ_cons, List.take_zero, Option.map_some, Nat.le_refl, Nat.zero_add, Nat.reduceAdd, Nat.reduceSub, Nat.reduceLeDiff, Nat.reduceEqDiff, if_true, if_false, Bool.false_eq_true, reduceIte, List.nodup_nil, List.nodup_cons, List.not_mem_nil, not_false_eq_true, and_true, true_and, List.mem_cons, or_false, or_self, forall_eq, forall_eq_or_imp,  Nat.le_add_left, Nat.zero_le, q_add, q_sub, q_neg, q_no, q_eq, q_ne, q_lt, q_le, q_gt, q_ge, q_toInt, q_abs, q_max2, q_lenL, q_lenS, q_lenT, q_ixL, q_ixT, q_ixS, q_isi_ii, q_isi_bi, q_isi_ib, q_isi_bb, q_isi_tt, q_isi_ll, q_isi_lt, q_isi_tl, q_isN_n, q_isN_t, q_isN_i, q_notN_n, q_notN_t, q_notN_i, q_eqS, q_neS, q_all, q_any, q_sum, q_tuple, q_listT, q_listL, q_idI, q_gcd, q_min2, q_isB, q_notB, Bool.not_true, Bool.not_false, Bool.not_not, at1_0, ixN1_0, at2_0, ixN2_0, at2_1, ixN2_1, at3_0, ixN3_0, at3_1, ixN3_1, at3_2, ixN3_2, at4_0, ixN4_0, at4_1, ixN4_1, at4_2, ixN4_2, at4_3, ixN4_3, at5_0, ixN5_0, at5_1, ixN5_1, at5_2, ixN5_2, at5_3, ixN5_3, at5_4, ixN5_4, at6_0, ixN6_0, at6_1, ixN6_1, at6_2, ixN6_2, at6_3, ixN6_3, at6_4, ixN6_4, at6_5, ixN6_5, ln0, ln1, ln2, ln3, ln4, ln5, ln6, ln7, ln8, ln9, ln10, ln11, ln12, ln13, ln14, ln15, ln16, ln17, ln18, ln19, ln20, ln21, ln22, ln23, ln24, nc0, nc1, nc2, nc3, nc4, nc5, nc6, nc7, nc8, nc9, nc10, nc11, nc12, nc13, nc14, nc15, nc16, false_imp_iff, implies_true, beq_self_eq_true, Int.reduceBEq, Int.reduceLT, Int.reduceLE, decide_true, decide_false, List.all_cons, List.all_nil, List.any_cons, List.any_nil, id_eq, Bool.and_true, Bool.true_and, Bool.and_false, Bool.false_and, Bool.or_true, Bool.true_or, Bool.or_false, Bool.false_or, w1, h1]
    simp only [v_var, v_lit, v_op, v_tup, v_lst, v_and, v_or, v_ite, v_chain, v_call, v_comp, v_mut, v_met, vs_nil, vs_cons, x_asg, x_asgT, x_set, x_unp, x_par, x_aug, x_if, x_ifl, frzE_nil, frzE_cons, frzSl_un, frzSl_d, frzSl_own, x_whl, x_for, x_ret, x_retN, x_expr, x_brk, x_cont, x_pass, xs_nil, xs_cons, lockA, unlockA, evCond, rdAs, rdA, boolA, bd, frz, frzs, frzR, slA, slAs, refs, postA, keepA, keepAs, g_nm', g_tp', g_sb', gs_nil', gs_cons', isOwn, isSet, isLs, setAt, putN_eq, fr_d, fr_un, fr_own0, slT, asD, retT, n_nm, n_tp, n_tl, ns_nil, ns_cons, augF, augI, items, mutKeeps, mutF, pick, List.filterMap_cons, List.filterMap_nil, List.getElem?_cons_zero, List.getElem?_cons_succ, List.getElem?_nil, List.length_cons, List.length_nil, List.cons_append, List.nil_append, List.replicate, List.map_cons, List.map_nil, List.set_cons_zero, List.set_cons_succ, List.take_succ_cons, List.take_zero, Option.map_some, Nat.le_refl, Nat.zero_add, Nat.reduceAdd, Nat.reduceSub, Nat.reduceLeDiff, Nat.reduceEqDiff, if_true, if_false, Bool.false_eq_true, reduceIte, List.nodup_nil, List.nodup_cons, List.not_mem_nil, not_false_eq_true, and_true, true_and, List.mem_cons, or_false, or_self, forall_eq, forall_eq_or_imp,  Nat.le_add_left, Nat.zero_le, q_add, q_sub, q_neg, q_no, q_eq, q_ne, q_lt, q_le, q_gt, q_ge, q_toInt, q_abs, q_max2, q_lenL, q_lenS, q_lenT, q_ixL, q_ixT, q_ixS, q_isi_ii, q_isi_bi, q_isi_ib, q_isi_bb, q_isi_tt, q_isi_ll, q_isi_lt, q_isi_tl, q_isN_n, q_isN_t, q_isN_i, q_notN_n, q_notN_t, q_notN_i, q_eqS, q_neS, q_all, q_any, q_sum, q_tuple, q_listT, q_listL, q_idI, q_gcd, q_min2, q_isB, q_notB, Bool.not_true, Bool.not_false, Bool.not_not, at1_0, ixN1_0, at2_0, ixN2_0, at2_1, ixN2_1, at3_0, ixN3_0, at3_1, ixN3_1, at3_2, ixN3_2, at4_0, ixN4_0, at4_1, ixN4_1, at4_2, ixN4_2, at4_3, ixN4_3, at5_0, ixN5_0, at5_1, ixN5_1, at5_2, ixN5_2, at5_3, ixN5_3, at5_4, ixN5_4, at6_0, ixN6_0, at6_1, ixN6_1, at6_2, ixN6_2, at6_3, ixN6_3, at6_4, ixN6_4, at6_5, ixN6_5, ln0, ln1, ln2, ln3, ln4, ln5, ln6, ln7, ln8, ln9, ln10, ln11, ln12, ln13, ln14, ln15, ln16, ln17, ln18, ln19, ln20, ln21, ln22, ln23, ln24, nc0, nc1, nc2, nc3, nc4, nc5, nc6, nc7, nc8, nc9, nc10, nc11, nc12, nc13, nc14, nc15, nc16, false_imp_iff, implies_true, beq_self_eq_true, Int.reduceBEq, Int.reduceLT, Int.reduceLE, decide_true, decide_false, List.all_cons, List.all_nil, List.any_cons, List.any_nil, id_eq, Bool.and_true, Bool.true_and, Bool.and_false, Bool.false_and, Bool.or_true, Bool.true_or, Bool.or_false, Bool.false_or, pw]
  | cons c cs =>
    have l1 : (0 : Int) < (((c :: cs).length : Nat) : Int) := by simp
    have l2 : decide ((0 : Int) < (((c :: cs).length : Nat) : Int)) = true := decide_eq_true l1
    have l3 : decide ((0 : Int) < ((cs.length + 1 : Nat) : Int)) = true := l2
    have a1 : atI ((c :: cs).map D.int) 0 = some (.int c) := atI_nat (i := 0) (by simp)
    have a2 : atI (D.int c :: cs.map D.int) 0 = some (.int c) := a1
    rw [List.map_cons] at h1 w1
    refine ⟨[.int (if (if c < 0 then -c else c) - 10 ^ 18 > 0 then (if c < 0 then -c else c) - 10 ^ 18 else 0), .int (f + 1)], ⟨_, _, rfl, by omega, by omega⟩, ?_⟩
    rw [cS, hp, bd]
    unfold tPot runF
    simp only [v_var, v_lit, v_op, v_tup, v_lst, v_and, v_or, v_ite, v_chain, v_call, v_comp, v_mut, v_met, vs_nil, vs_cons, x_asg, x_asgT, x_set, x_unp, x_par, x_aug, x_if, x_ifl, frzE_nil, frzE_cons, frzSl_un, frzSl_d, frzSl_own, x_whl, x_for, x_ret, x_retN, x_expr, x_brk, x_cont, x_pass, xs_nil, xs_cons, lockA, unlockA, evCond, rdAs, rdA, boolA, bd, frz, frzs, frzR, slA, slAs, refs, postA, keepA, keepAs, g_nm', g_tp', g_sb', gs_nil', gs_cons', isOwn, isSet, isLs, setAt, putN_eq, fr_d, fr_un, fr_own0, slT, asD, retT, n_nm, n_tp, n_tl, ns_nil, ns_cons, augF, augI, items, mutKeeps, mutF, pick, List.filterMap_cons, List.filterMap_nil, List.getElem?_cons_zero, List.getElem?_cons_succ, List.getElem?_nil, List.length_cons, List.length_nil, List.cons_append, List.nil_append, List.replicate, List.map_cons, List.map_nil, List.set_cons_zero, List.set_cons_succ, List.take_succ_cons, List.take_zero, Option.map_some, Nat.le_refl, Nat.zero_add, Nat.reduceAdd, Nat.reduceSub, Nat.reduceLeDiff, Nat.reduceEqDiff, if_true, if_false, Bool.false_eq_true, reduceIte, List.nodup_nil, List.nodup_cons, List.not_mem_nil, not_false_eq_true, and_true, true_and, List.mem_cons, or_false, or_self, forall_eq, forall_eq_or_imp,  Nat.le_add_left, Nat.zero_le, q_add, q_sub, q_neg, q_no, q_eq, q_ne, q_lt, q_le, q_gt, q_ge, q_toInt, q_abs, q_max2, q_lenL, q_lenS, q_lenT, q_ixL, q_ixT, q_ixS, q_isi_ii, q_isi_bi, q_isi_ib, q_isi_bb, q_isi_tt, q_isi_ll, q_isi_lt, q_isi_tl, q_isN_n, q_isN_t, q_isN_i, q_notN_n, q_notN_t, q_notN_i, q_eqS, q_neS, q_all, q_any, q_sum, q_tuple, q_listT, q_listL, q_idI, q_gcd, q_min2, q_isB, q_notB, Bool.not_true, Bool.not_false, Bool.not_not, at1_0, ixN1_0, at2_0, ixN2_0, at2_1, ixN2_1, at3_0, ixN3_0, at3_1, ixN3_1, at3_2, ixN3_2, at4_0, ixN4_0, at4_1, ixN4_1, at4_2, ixN4_2, at4_3, ixN4_3, at5_0, ixN5_0, at5_1, ixN5_1, at5_2, ixN5_2, at5_3, ixN5_3, at5_4, ixN5_4, at6_0, ixN6_0, at6_1, ixN6_1, at6_2, ixN6_2, at6_3, ixN6_3, at6_4, ixN6_4, at6_5, ixN6_5, ln0, ln1, ln2, ln3, ln4, ln5, ln6, ln7, ln8, ln9, ln10, ln11, ln12, ln13, ln14, ln15, ln16, ln17, ln18, ln19, ln20, ln21, ln22, ln23, ln24, nc0, nc1, nc2, nc3, nc4, nc5, nc6, nc7, nc8, nc9, nc10, nc11, nc12, nc13, nc14, nc15, nc16, false_imp_iff, implies_true, beq_self_eq_true, Int.reduceBEq, Int.reduceLT, Int.reduceLE, decide_true, decide_false, List.all_cons, List.all_nil, List.any_cons, List.any_nil, id_eq, Bool.and_true, Bool.true_and, Bool.and_false, Bool.false_and, Bool.or_true, Bool.true_or, Bool.or_false, Bool.false_or, w1, h1]
    simp only [v_var, v_lit, v_op, v_tup, v_lst, v_and, v_or, v_ite, v_chain, v_call, v_comp, v_mut, v_met, vs_nil, vs_cons, x_asg, x_asgT, x_set, x_unp, x_par, x_aug, x_if, x_ifl, frzE_nil, frzE_cons, frzSl_un, frzSl_d, frzSl_own, x_whl, x_for, x_ret, x_retN, x_expr, x_brk, x_cont, x_pass, xs_nil, xs_cons, lockA, unlockA, evCond, rdAs, rdA, boolA, bd, frz, frzs, frzR, slA, slAs, refs, postA, keepA, keepAs, g_nm', g_tp', g_sb', gs_nil', gs_cons', isOwn, isSet, isLs, setAt, putN_eq, fr_d, fr_un, fr_own0, slT, asD, retT, n_nm, n_tp, n_tl, ns_nil, ns_cons, augF, augI, items, mutKeeps, mutF, pick, List.filterMap_cons, List.filterMap_nil, List.getElem?_cons_zero, List.getElem?_cons_succ, List.getElem?_nil, List.length_cons, List.length_nil, List.cons_append, List.nil_append, List.replicate, List.map_cons, List.map_nil, List.set_cons_zero, List.set_cons_succ, List.take_succ_cons, List.take_zero, Option.map_some, Nat.le_refl, Nat.zero_add, Nat.reduceAdd, Nat.reduceSub, Nat.reduceLeDiff, Nat.reduceEqDiff, if_true, if_false, Bool.false_eq_true, reduceIte, List.nodup_nil, List.nodup_cons, List.not_mem_nil, not_false_eq_true, and_true, true_and, List.mem_cons, or_false, or_self, forall_eq, forall_eq_or_imp,  Nat.le_add_left, Nat.zero_le, q_add, q_sub, q_neg, q_no, q_eq, q_ne, q_lt, q_le, q_gt, q_ge, q_toInt, q_abs, q_max2, q_lenL, q_lenS, q_lenT, q_ixL, q_ixT, q_ixS, q_isi_ii, q_isi_bi, q_isi_ib, q_isi_bb, q_isi_tt, q_isi_ll, q_isi_lt, q_isi_tl, q_isN_n, q_isN_t, q_isN_i, q_notN_n, q_notN_t, q_notN_i, q_eqS, q_neS, q_all, q_any, q_sum, q_tuple, q_listT, q_listL, q_idI, q_gcd, q_min2, q_isB, q_notB, Bool.not_true, Bool.not_false, Bool.not_not, at1_0, ixN1_0, at2_0, ixN2_0, at2_1, ixN2_1, at3_0, ixN3_0, at3_1, ixN3_1, at3_2, ixN3_2, at4_0, ixN4_0, at4_1, ixN4_1, at4_2, ixN4_2, at4_3, ixN4_3, at5_0, ixN5_0, at5_1, ixN5_1, at5_2, ixN5_2, at5_3, ixN5_3, at5_4, ixN5_4, at6_0, ixN6_0, at6_1, ixN6_1, at6_2, ixN6_2, at6_3, ixN6_3, at6_4, ixN6_4, at6_5, ixN6_5, ln0, ln1, ln2, ln3, ln4, ln5, ln6, ln7, ln8, ln9, ln10, ln11, ln12, ln13, ln14, ln15, ln16, ln17, ln18, ln19, ln20, ln21, ln22, ln23, ln24, nc0, nc1, nc2, nc3, nc4, nc5, nc6, nc7, nc8, nc9, nc10, nc11, nc12, nc13, nc14, nc15, nc16, false_imp_iff, implies_true, beq_self_eq_true, Int.reduceBEq, Int.reduceLT, Int.reduceLE, decide_true, decide_false, List.all_cons, List.all_nil, List.any_cons, List.any_nil, id_eq, Bool.and_true, Bool.true_and, Bool.and_false, Bool.false_and, Bool.or_true, Bool.true_or, Bool.or_false, Bool.false_or, l3, a2, pw]
/-! ### the common divisor, by Euclid -/
def tCommon : Fi := ⟨2, 2, [
  .par [(.n (.nm 0)), (.n (.nm 1))] [(.op .abs [(.var 0)]), (.op .abs [(.var 1)])],
  .whl (.op .gt [(.var 1), (.lit (.int 0))]) [.par [(.n (.nm 0)), (.n (.nm 1))] [(.var 1), (.op .mod [(.var 0), (.var 1)])]],
  .ret (.var 0)]⟩
theorem common_loop (C : Sem0) : ∀ (w : Nat) (a b : Nat), b ≤ w → ∀ fu : Nat, w + 1 < fu → whlN (testF C (.op .gt [(.var 1), (.lit (.int 0))])) (blockF C Fuel [.par [(.n (.nm 0)), (.n (.nm 1))] [(.var 1), (.op .mod [(.var 0), (.var 1)])]]) fu [.d (.int a), .d (.int b)] = some (.nx [.d (.int (Nat.gcd a b : Nat)), .d (.int 0)]) := by
  have test : ∀ a b : Int, testF C (.op .gt [(.var 1), (.lit (.int 0))]) [.d (.int a), .d (.int b)] = some (decide (0 < b), [.d (.int a), .d (.int b)]) := fun a b => by
    unfold testF
    simp only [v_var, v_lit, v_op, v_tup, v_lst, v_and, v_or, v_ite, v_chain, v_call, v_comp, v_mut, v_met, vs_nil, vs_cons, x_asg, x_asgT, x_set, x_unp, x_par, x_aug, x_if, x_ifl, frzE_nil, frzE_cons, frzSl_un, frzSl_d, frzSl_own, x_whl, x_for, x_ret, x_retN, x_expr, x_brk, x_cont, x_pass, xs_nil, xs_cons, lockA, unlockA, evCond, rdAs, rdA, boolA, bd, frz, frzs, frzR, slA, slAs, refs, postA, keepA, keepAs, g_nm', g_tp', g_sb', gs_nil', gs_cons', isOwn, isSet, isLs, setAt, putN_eq, fr_d, fr_un, fr_own0, slT, asD, retT, n_nm, n_tp, n_tl, ns_nil, ns_cons, augF, augI, items, mutKeeps, mutF, pick, List.filterMap_cons, List.filterMap_nil, List.getElem?_cons_zero, List.getElem?_cons_succ, List.getElem?_nil, List.length_cons, List.length_nil, List.cons_append, List.nil_append, List.replicate, List.map_cons, List.map_nil, List.set_cons_zero, List.set_cons_succ, List.take_succ_cons, List.take_zero, Option.map_some, Nat.le_refl, Nat.zero_add, Nat.reduceAdd, Nat.reduceSub, Nat.reduceLeDiff, Nat.reduceEqDiff, if_true, if_false, Bool.false_eq_true, reduceIte, List.nodup_nil, List.nodup_cons, List.not_mem_nil, not_false_eq_true, and_true, true_and, List.mem_cons, or_false, or_self, forall_eq, forall_eq_or_imp,  Nat.le_add_left, Nat.zero_le, q_add, q_sub, q_neg, q_no, q_eq, q_ne, q_lt, q_le, q_gt, q_ge, q_toInt, q_abs, q_max2, q_lenL, q_lenS, q_lenT, q_ixL, q_ixT, q_ixS, q_isi_ii, q_isi_bi, q_isi_ib, q_isi_bb, q_isi_tt, q_isi_ll, q_isi_lt, q_isi_tl, q_isN_n, q_isN_t, q_isN_i, q_notN_n, q_notN_t, q_notN_i, q_eqS, q_neS, q_all, q_any, q_sum, q_tuple, q_listT, q_listL, q_idI, q_gcd, q_min2, q_isB, q_notB, Bool.not_true, Bool.not_false, Bool.not_not, at1_0, ixN1_0, at2_0, ixN2_0, at2_1, ixN2_1, at3_0, ixN3_0, at3_1, ixN3_1, at3_2, ixN3_2, at4_0, ixN4_0, at4_1, ixN4_1, at4_2, ixN4_2, at4_3, ixN4_3, at5_0, ixN5_0, at5_1, ixN5_1, at5_2, ixN5_2, at5_3, ixN5_3, at5_4, ixN5_4, at6_0, ixN6_0, at6_1, ixN6_1, at6_2, ixN6_2, at6_3, ixN6_3, at6_4, ixN6_4, at6_5, ixN6_5, ln0, ln1, ln2, ln3, ln4, ln5, ln6, ln7, ln8, ln9, ln10, ln11, ln12, ln13, ln14, ln15, ln16, ln17, ln18, ln19, ln20, ln21, ln22, ln23, ln24, nc0, nc1, nc2, nc3, nc4, nc5, nc6, nc7, nc8, nc9, nc10, nc11, nc12, nc13, nc14, nc15, nc16, false_imp_iff, implies_true, beq_self_eq_true, Int.reduceBEq, Int.reduceLT, Int.reduceLE, decide_true, decide_false, List.all_cons, List.all_nil, List.any_cons, List.any_nil, id_eq, Bool.and_true, Bool.true_and, Bool.and_false, Bool.false_and, Bool.or_true, Bool.true_or, Bool.or_false, Bool.false_or]
  have fin : ∀ (a : Nat) (fu : Nat), 1 < fu → whlN (testF C (.op .gt [(.var 1), (.lit (.int 0))])) (blockF C Fuel [.par [(.n (.nm 0)), (.n (.nm 1))] [(.var 1), (.op .mod [(.var 0), (.var 1)])]]) fu [.d (.int a), .d (.int (0 : Nat))] = some (.nx [.d (.int (Nat.gcd a 0 : Nat)), .d (.int 0)]) := fun a fu hf => by
    obtain ⟨f, rfl⟩ : ∃ f, fu = f + 1 := ⟨fu - 1, by omega⟩
    rw [whl_false (e1 := [.d (.int a), .d (.int 0)]) (test _ _), Nat.gcd_zero_right]
  intro w
  induction w with
  | zero =>
    intro a b h fu hf
    obtain rfl : b = 0 := by omega
    exact fin a fu (by omega)
  | succ w ih =>
    intro a b h fu hf
    by_cases hb : b = 0
    · subst hb; exact fin a fu (by omega)
    · obtain ⟨f, rfl⟩ : ∃ f, fu = f + 1 := ⟨fu - 1, by omega⟩
      have lt : a % b < b := Nat.mod_lt _ (by omega)
      have hz : ((b : Int) != 0) = true := by rw [bne_iff_ne]; omega
      have fm : (a : Int).fmod (b : Int) = ((a % b : Nat) : Int) := by rw [Int.fmod_eq_emod_of_nonneg _ (by omega)]; simp
      have blk : blockF C Fuel [.par [(.n (.nm 0)), (.n (.nm 1))] [(.var 1), (.op .mod [(.var 0), (.var 1)])]] [.d (.int a), .d (.int b)] = some (.nx [.d (.int b), .d (.int ((a % b : Nat) : Int))]) := by
        unfold blockF
        simp only [v_var, v_lit, v_op, v_tup, v_lst, v_and, v_or, v_ite, v_chain, v_call, v_comp, v_mut, v_met, vs_nil, vs_cons, x_asg, x_asgT, x_set, x_unp, x_par, x_aug, x_if, x_ifl, frzE_nil, frzE_cons, frzSl_un, frzSl_d, frzSl_own, x_whl, x_for, x_ret, x_retN, x_expr, x_brk, x_cont, x_pass, xs_nil, xs_cons, lockA, unlockA, evCond, rdAs, rdA, boolA, bd, frz, frzs, frzR, slA, slAs, refs, postA, keepA, keepAs, g_nm', g_tp', g_sb', gs_nil', gs_cons', isOwn, isSet, isLs, setAt, putN_eq, fr_d, fr_un, fr_own0, slT, asD, retT, n_nm, n_tp, n_tl, ns_nil, ns_cons, augF, augI, items, mutKeeps, mutF, pick, List.filterMap_cons, List.filterMap_nil, List.getElem?_cons_zero, List.getElem?_cons_succ, List.getElem?_nil, List.length_cons, List.length_nil, List.cons_append, List.nil_append, List.replicate, List.map_cons, List.map_nil, List.set_cons_zero, List.set_cons_succ, List.take_succ_cons, List.take_zero, Option.map_some, Nat.le_refl, Nat.zero_add, Nat.reduceAdd, Nat.reduceSub, Nat.reduceLeDiff, Nat.reduceEqDiff, if_true, if_false, Bool.false_eq_true, reduceIte, List.nodup_nil, List.nodup_cons, List.not_mem_nil, not_false_eq_true, and_true, true_and, List.mem_cons, or_false, or_self, forall_eq, forall_eq_or_imp,  Nat.le_add_left, Nat.zero_le, q_add, q_sub, q_neg, q_no, q_eq, q_ne, q_lt, q_le, q_gt, q_ge, q_toInt, q_abs, q_max2, q_lenL, q_lenS, q_lenT, q_ixL, q_ixT, q_ixS, q_isi_ii, q_isi_bi, q_isi_ib, q_isi_bb, q_isi_tt, q_isi_ll, q_isi_lt, q_isi_tl, q_isN_n, q_isN_t, q_isN_i, q_notN_n, q_notN_t, q_notN_i, q_eqS, q_neS, q_all, q_any, q_sum, q_tuple, q_listT, q_listL, q_idI, q_gcd, q_min2, q_isB, q_notB, Bool.not_true, Bool.not_false, Bool.not_not, at1_0, ixN1_0, at2_0, ixN2_0, at2_1, ixN2_1, at3_0, ixN3_0, at3_1, ixN3_1, at3_2, ixN3_2, at4_0, ixN4_0, at4_1, ixN4_1, at4_2, ixN4_2, at4_3, ixN4_3, at5_0, ixN5_0, at5_1, ixN5_1, at5_2, ixN5_2, at5_3, ixN5_3, at5_4, ixN5_4, at6_0, ixN6_0, at6_1, ixN6_1, at6_2, ixN6_2, at6_3, ixN6_3, at6_4, ixN6_4, at6_5, ixN6_5, ln0, ln1, ln2, ln3, ln4, ln5, ln6, ln7, ln8, ln9, ln10, ln11, ln12, ln13, ln14, ln15, ln16, ln17, ln18, ln19, ln20, ln21, ln22, ln23, ln24, nc0, nc1, nc2, nc3, nc4, nc5, nc6, nc7, nc8, nc9, nc10, nc11, nc12, nc13, nc14, nc15, nc16, false_imp_iff, implies_true, beq_self_eq_true, Int.reduceBEq, Int.reduceLT, Int.reduceLE, decide_true, decide_false, List.all_cons, List.all_nil, List.any_cons, List.any_nil, id_eq, Bool.and_true, Bool.true_and, Bool.and_false, Bool.false_and, Bool.or_true, Bool.true_or, Bool.or_false, Bool.false_or, q_mod hz, fm]
      have t1 := test (a : Int) (b : Int)
      rw [decide_eq_true (show (0 : Int) < (b : Int) by omega)] at t1
      rw [whl_true t1 blk, ih b (a % b) (by omega) f (by omega), Nat.gcd_comm a b, Nat.gcd_rec b a, Nat.gcd_comm b (a % b)]
theorem common_ok {tb : List Fi} {f : Nat} (h : tb[f]? = some tCommon) (k : Nat) {a b : Int} (hb : b.natAbs < 2 ^ 1000) :
    callAt tb (k + 1) f [.d (.int a), .d (.int b)] = some (.d (.int (Nat.gcd a.natAbs b.natAbs : Nat)), [.d (.int (Nat.gcd a.natAbs b.natAbs : Nat)), .d (.int 0)]) := by
  have ab : ∀ i : Int, (if i < 0 then -i else i) = ((i.natAbs : Nat) : Int) := fun i => by split <;> omega
  have fu : b.natAbs + 1 < Fuel := by
    unfold Fuel
    have h1 : (2 : Nat) ^ 1000 < 2 ^ 1999 := Nat.pow_lt_pow_right (by decide) (by decide)
    have h2 : (2 : Nat) ^ 2000 = 2 * 2 ^ 1999 := by rw [← Nat.pow_succ']
    generalize (2 : Nat) ^ 1000 = x at *
    generalize (2 : Nat) ^ 1999 = y at *
    omega
  have lp := common_loop (callAt tb k) b.natAbs a.natAbs b.natAbs (Nat.le_refl _) Fuel fu
  rw [cS, h, bd]
  unfold tCommon runF
  simp only [v_var, v_lit, v_op, v_tup, v_lst, v_and, v_or, v_ite, v_chain, v_call, v_comp, v_mut, v_met, vs_nil, vs_cons, x_asg, x_asgT, x_set, x_unp, x_par, x_aug, x_if, x_ifl, frzE_nil, frzE_cons, frzSl_un, frzSl_d, frzSl_own, x_whl, x_for, x_ret, x_retN, x_expr, x_brk, x_cont, x_pass, xs_nil, xs_cons, lockA, unlockA, evCond, rdAs, rdA, boolA, bd, frz, frzs, frzR, slA, slAs, refs, postA, keepA, keepAs, g_nm', g_tp', g_sb', gs_nil', gs_cons', isOwn, isSet, isLs, setAt, putN_eq, fr_d, fr_un, fr_own0, slT, asD, retT, n_nm, n_tp, n_tl, ns_nil, ns_cons, augF, augI, items, mutKeeps, mutF, pick, List.filterMap_cons, List.filterMap_nil, List.getElem?_cons_zero, List.getElem?_cons_succ, List.getElem?_nil, List.length_cons, List.length_nil, List.cons_append, List.nil_append, List.replicate, List.map_cons, List.map_nil, List.set_cons_zero, List.set_cons_succ, List.take_succ_cons, List.take_zero, Option.map_some, Nat.le_refl, Nat.zero_add, Nat.reduceAdd, Nat.reduceSub, Nat.reduceLeDiff, Nat.reduceEqDiff, if_true, if_false, Bool.false_eq_true, reduceIte, List.nodup_nil, List.nodup_cons, List.not_mem_nil, not_false_eq_true, and_true, true_and, List.mem_cons, or_false, or_self, forall_eq, forall_eq_or_imp,  Nat.le_add_left, Nat.zero_le, q_add, q_sub, q_neg, q_no, q_eq, q_ne, q_lt, q_le, q_gt, q_ge, q_toInt, q_abs, q_max2, q_lenL, q_lenS, q_lenT, q_ixL, q_ixT, q_ixS, q_isi_ii, q_isi_bi, q_isi_ib, q_isi_bb, q_isi_tt, q_isi_ll, q_isi_lt, q_isi_tl, q_isN_n, q_isN_t, q_isN_i, q_notN_n, q_notN_t, q_notN_i, q_eqS, q_neS, q_all, q_any, q_sum, q_tuple, q_listT, q_listL, q_idI, q_gcd, q_min2, q_isB, q_notB, Bool.not_true, Bool.not_false, Bool.not_not, at1_0, ixN1_0, at2_0, ixN2_0, at2_1, ixN2_1, at3_0, ixN3_0, at3_1, ixN3_1, at3_2, ixN3_2, at4_0, ixN4_0, at4_1, ixN4_1, at4_2, ixN4_2, at4_3, ixN4_3, at5_0, ixN5_0, at5_1, ixN5_1, at5_2, ixN5_2, at5_3, ixN5_3, at5_4, ixN5_4, at6_0, ixN6_0, at6_1, ixN6_1, at6_2, ixN6_2, at6_3, ixN6_3, at6_4, ixN6_4, at6_5, ixN6_5, ln0, ln1, ln2, ln3, ln4, ln5, ln6, ln7, ln8, ln9, ln10, ln11, ln12, ln13, ln14, ln15, ln16, ln17, ln18, ln19, ln20, ln21, ln22, ln23, ln24, nc0, nc1, nc2, nc3, nc4, nc5, nc6, nc7, nc8, nc9, nc10, nc11, nc12, nc13, nc14, nc15, nc16, false_imp_iff, implies_true, beq_self_eq_true, Int.reduceBEq, Int.reduceLT, Int.reduceLE, decide_true, decide_false, List.all_cons, List.all_nil, List.any_cons, List.any_nil, id_eq, Bool.and_true, Bool.true_and, Bool.and_false, Bool.false_and, Bool.or_true, Bool.true_or, Bool.or_false, Bool.false_or, ab, lp]
end Ev

set_option maxHeartbeats 40000000
/-! sums of whole parts, in plain Lean -/
namespace Fs
theorem dv_unique {a b q r : Int} (hb : 0 < b) (h : a = b * q + r) (h0 : 0 ≤ r) (h1 : r < b) : a / b = q ∧ a % b = r := (Int.ediv_emod_unique hb).mpr ⟨by rw [h]; exact Int.add_comm _ _, h0, h1⟩
theorem dv_eq (a : Int) {b : Int} (hb : 0 < b) : a = b * (a / b) + a % b ∧ 0 ≤ a % b ∧ a % b < b := ⟨(Int.mul_ediv_add_emod a b).symm, Int.emod_nonneg _ (by omega), Int.emod_lt_of_pos _ hb⟩
/-- the sum over i < n of (a i + b) / m -/
def FS (a b m : Int) : Nat → Int
  | 0 => 0
  | n + 1 => FS a b m n + (a * n + b) / m
theorem fs_shift_b {a b t m : Int} (hm : 0 < m) : ∀ n : Nat, FS a (b + t * m) m n = FS a b m n + t * n
  | 0 => by simp [FS]
  | n + 1 => by
    rw [FS, FS, fs_shift_b hm n]
    have : (a * n + (b + t * m)) / m = (a * n + b) / m + t := by
      rw [show a * n + (b + t * m) = (a * n + b) + t * m by grind]
      exact Int.add_mul_ediv_right _ _ (by omega)
    rw [this]
    push_cast
    grind
/-- n (n - 1) / 2 -/
def tri : Nat → Int
  | 0 => 0
  | n + 1 => tri n + n
theorem tri_eq : ∀ n : Nat, (n : Int) * (n - 1) / 2 = tri n
  | 0 => by simp [tri]
  | n + 1 => by
    rw [tri, ← tri_eq n]
    have : ((n + 1 : Nat) : Int) * (((n + 1 : Nat) : Int) - 1) = (n : Int) * (n - 1) + n * 2 := by push_cast; grind
    rw [this]
    exact Int.add_mul_ediv_right _ _ (by decide)
theorem fs_shift_a {a b t m : Int} (hm : 0 < m) : ∀ n : Nat, FS (a + t * m) b m n = FS a b m n + t * tri n
  | 0 => by simp [FS, tri]
  | n + 1 => by
    rw [FS, FS, tri, fs_shift_a hm n]
    have : ((a + t * m) * n + b) / m = (a * n + b) / m + t * n := by
      rw [show (a + t * m) * n + b = (a * n + b) + (t * n) * m by grind]
      exact Int.add_mul_ediv_right _ _ (by omega)
    rw [this]
    grind
theorem fs_split {a b m : Int} (n1 : Nat) : ∀ n2 : Nat, FS a b m (n1 + n2) = FS a b m n1 + FS a (a * n1 + b) m n2
  | 0 => by simp [FS]
  | n + 1 => by
    rw [← Nat.add_assoc, FS, FS, fs_split n1 n]
    have : a * ((n1 + n : Nat) : Int) + b = a * n + (a * n1 + b) := by push_cast; grind
    rw [this]
    grind
theorem fs_part {a b m : Int} (hm : 0 < m) (n : Nat) : FS a b m n = a / m * tri n + b / m * n + FS (a % m) (b % m) m n := by
  have h1 := fs_shift_a (a := a % m) (b := b) (t := a / m) hm n
  have h2 := fs_shift_b (a := a % m) (b := b % m) (t := b / m) hm n
  have e1 : a % m + a / m * m = a := by have := Int.mul_ediv_add_emod a m; grind
  have e2 : b % m + b / m * m = b := by have := Int.mul_ediv_add_emod b m; grind
  rw [e1] at h1; rw [e2] at h2
  grind
theorem fs_head {a b m : Int} (n : Nat) : FS a b m (n + 1) = b / m + FS a (a + b) m n := by
  have := fs_split (a := a) (b := b) (m := m) 1 n
  rw [Nat.add_comm n 1, this]
  simp only [FS]
  rw [show a * ((0 : Nat) : Int) + b = b by simp, show a * ((1 : Nat) : Int) + b = a + b by simp]
  omega
theorem fs_zero_b {b m : Int} (hm : 0 < m) (h0 : 0 ≤ b) (h1 : b < m) : ∀ n : Nat, FS 0 b m n = 0
  | 0 => rfl
  | n + 1 => by
    rw [FS, fs_zero_b hm h0 h1 n]
    have : (0 * (n : Int) + b) / m = 0 := by
      rw [show 0 * (n : Int) + b = b by grind]
      exact Int.ediv_eq_zero_of_lt h0 h1
    rw [this]; rfl
/-- the sum the other way round -/
theorem fs_turn {a b m : Int} (ha : 0 < a) (ham : a < m) (hb : 0 ≤ b) (hbm : b < m) : ∀ n : Nat, FS a b m n = FS m ((a * n + b) % m) a ((a * n + b) / m).toNat
  | 0 => by
    have : (a * ((0 : Nat) : Int) + b) / m = 0 := by
      rw [show a * ((0 : Nat) : Int) + b = b by simp]
      exact Int.ediv_eq_zero_of_lt hb hbm
    rw [this]; rfl
  | n + 1 => by
    rw [FS, fs_turn ha ham hb hbm n]
    have hm : 0 < m := by omega
    obtain ⟨e1, e2, e3⟩ := dv_eq (a * n + b) hm
    generalize hr : (a * (n : Int) + b) / m = r at *
    generalize hs : (a * (n : Int) + b) % m = s at *
    have hr0 : 0 ≤ r := by
      rw [← hr]
      exact Int.ediv_nonneg (Int.add_nonneg (Int.mul_nonneg (by omega) (by omega)) hb) (by omega)
    obtain ⟨q, rfl⟩ := Int.eq_ofNat_of_zero_le hr0
    have hy : a * ((n + 1 : Nat) : Int) + b = m * q + (s + a) := by push_cast; grind
    have key : ∀ j : Nat, FS m (s + a) a j = FS m s a j + j := by
      intro j
      have := fs_shift_b (a := m) (b := s) (t := 1) ha j
      simpa using this
    by_cases hc : s + a < m
    · obtain ⟨g1, g2⟩ := dv_unique hm hy (by omega) hc
      rw [g1, g2]
      rw [Int.toNat_natCast, key]
    · have hy2 : a * ((n + 1 : Nat) : Int) + b = m * ((q + 1 : Nat) : Int) + (s + a - m) := by push_cast; grind
      obtain ⟨g1, g2⟩ := dv_unique hm hy2 (by omega) (by omega)
      rw [g1, g2, Int.toNat_natCast, Int.toNat_natCast, fs_head]
      have z1 : (s + a - m) / a = 0 := Int.ediv_eq_zero_of_lt (by omega) (by omega)
      have z2 : m + (s + a - m) = s + a := by omega
      rw [z1, z2, key]; omega
theorem tri2 : ∀ n : Nat, 2 * tri n = (n : Int) * (n - 1)
  | 0 => by simp [tri]
  | n + 1 => by
    have := tri2 n
    rw [tri]; push_cast; grind
/-- twice the sum of a i / m over a whole round -/
theorem fs_round : ∀ (w : Nat) (a m : Nat), m ≤ w → 0 < m → 0 < a → 2 * FS a 0 m m = ((a : Int) - 1) * ((m : Int) - 1) + (Nat.gcd a m : Nat) - 1 := by
  intro w
  induction w with
  | zero => intro a m h h2; omega
  | succ w ih =>
    intro a m hw hm ha
    have hm' : (0 : Int) < m := by omega
    have e0 := fs_part (a := (a : Int)) (b := 0) hm' m
    have t2 := tri2 m
    have z1 : (0 : Int) / (m : Int) = 0 := Int.zero_ediv _
    have z2 : (0 : Int) % (m : Int) = 0 := Int.zero_emod _
    rw [z1, z2] at e0
    obtain ⟨e1, e2, e3⟩ := dv_eq (a : Int) hm'
    have cr : ((a : Int) % (m : Int)) = ((a % m : Nat) : Int) := by simp
    have cq : ((a : Int) / (m : Int)) = ((a / m : Nat) : Int) := by simp
    rw [cr, cq] at e0 e1
    generalize hq : a / m = q at *
    by_cases hr : a % m = 0
    · rw [hr] at e0 e1
      rw [show (((0 : Nat)) : Int) = 0 from rfl] at e0 e1
      have g : Nat.gcd a m = m := by
        rw [Nat.gcd_comm, Nat.gcd_rec, hr]; simp
      rw [fs_zero_b hm' (Int.le_refl 0) hm'] at e0
      rw [e0, g]
      have : (a : Int) = m * q := by simpa using e1
      rw [this]
      grind
    · have hrlt : a % m < m := Nat.mod_lt _ hm
      generalize hs : a % m = r at *
      have hrp : 0 < r := by omega
      have e4 := fs_turn (a := (r : Int)) (b := 0) (m := (m : Int)) (by omega) (by omega) (by omega) (by omega) m
      have y1 : ((r : Int) * (m : Int) + 0) % (m : Int) = 0 := by rw [Int.add_zero]; exact Int.mul_emod_left _ _
      have y2 : ((r : Int) * (m : Int) + 0) / (m : Int) = r := by rw [Int.add_zero]; exact Int.mul_ediv_cancel _ (by omega)
      rw [y1, y2, Int.toNat_natCast] at e4
      have e5 := ih m r (by omega) hrp hm
      have g : Nat.gcd a m = Nat.gcd m r := by
        rw [Nat.gcd_comm a m, Nat.gcd_rec m a, hs, Nat.gcd_comm]
      rw [e0, g, e4]
      have : (a : Int) = m * q + r := by simpa using e1
      rw [this]
      grind
theorem fs_le {a b m : Int} (hm : 0 < m) (ha : 0 ≤ a) (hb : 0 ≤ b) : ∀ n : Nat, 0 ≤ FS a b m n ∧ FS a b m n ≤ n * (a * n + b)
  | 0 => by simp [FS]
  | n + 1 => by
    obtain ⟨h1, h2⟩ := fs_le hm ha hb n
    have h3 : 0 ≤ a * (n : Int) := Int.mul_nonneg ha (by omega)
    have h4 : 0 ≤ (a * n + b) / m := Int.ediv_nonneg (by omega) (by omega)
    have h5 : (a * n + b) / m ≤ a * n + b := Int.ediv_le_self _ (by omega)
    rw [FS]
    refine ⟨by omega, ?_⟩
    have h6 : ((n + 1 : Nat) : Int) * (a * ((n + 1 : Nat) : Int) + b) = (n : Int) * (a * n + b) + (a * n + b) + a * n + a := by push_cast; grind
    have h7 : 0 ≤ a * (n : Int) * 1 := by omega
    rw [h6]; omega
/-- turned about: i by n - 1 - i -/
theorem fs_back {a b m : Int} : ∀ n : Nat, FS a b m n = FS (-a) (a * (n - 1) + b) m n
  | 0 => rfl
  | n + 1 => by
    rw [FS, fs_head, fs_back n]
    have e1 : a * (((n + 1 : Nat) : Int) - 1) + b = a * n + b := by push_cast; grind
    have e2 : -a + (a * (((n + 1 : Nat) : Int) - 1) + b) = a * ((n : Int) - 1) + b := by push_cast; grind
    rw [e1] at *
    have e2' : -a + (a * (n : Int) + b) = a * ((n : Int) - 1) + b := by grind
    rw [e2']; omega
/-- a sum and that of what is left to whole ones: between (t - 1) n and t n -/
theorem fs_alike {m : Int} (hm : 0 < m) (a b c t : Int) (h : b + c = t * m) : ∀ n : Nat, (t - 1) * n ≤ FS a b m n + FS (-a) c m n ∧ FS a b m n + FS (-a) c m n ≤ t * n
  | 0 => by simp [FS]
  | n + 1 => by
    obtain ⟨h1, h2⟩ := fs_alike hm a b c t h n
    rw [FS, FS]
    obtain ⟨e1, e2, e3⟩ := dv_eq (a * n + b) hm
    have e4 : -a * n + c = m * (t - (a * n + b) / m) - (a * n + b) % m := by grind
    generalize (a * n + b) / m = q at *
    generalize (a * n + b) % m = r at *
    have key : (-a * (n : Int) + c) / m = t - q ∨ (-a * (n : Int) + c) / m = t - q - 1 := by
      by_cases hr : r = 0
      · left
        exact (dv_unique hm (q := t - q) (r := 0) (by rw [e4, hr]; omega) (by omega) hm).1
      · right
        exact (dv_unique hm (q := t - q - 1) (r := m - r) (by rw [e4]; grind) (by omega) (by omega)).1
    have c1 : (t - 1) * ((n + 1 : Nat) : Int) = (t - 1) * n + (t - 1) := by push_cast; grind
    have c2 : t * ((n + 1 : Nat) : Int) = t * n + t := by push_cast; grind
    rw [c1, c2]
    rcases key with k | k <;> rw [k] <;> omega
end Fs

set_option maxHeartbeats 40000000
/-! Ev, part Gr: grids and their sums. -/
namespace Ev
open PySem Fs
def tIsInt : Fi := ⟨1, 1, [
  .ret (.and (.op (.isi [.int]) [(.var 0)]) (.op .no [(.op (.isi [.bool]) [(.var 0)])]))]⟩
def tIsCount (i : Nat) : Fi := ⟨1, 1, [
  .ret (.and (.call i [true] [0] [(.var 0)]) (.op .ge [(.var 0), (.lit (.int 0))]))]⟩
def tTurned : Fi := ⟨1, 6, [
  .asg (.tp [(.nm 2), (.nm 3), (.nm 4), (.nm 5)]) (.var 0),
  .par [(.n (.nm 3)), (.n (.nm 4))] [(.op .mod [(.op .toInt [(.var 3)]), (.var 5)]), (.op .mod [(.op .toInt [(.var 4)]), (.var 5)])],
  .asg (.nm 1) (.op .fdiv [(.op .toInt [(.op .add [(.op .mul [(.var 3), (.var 2)]), (.var 4)])]), (.var 5)]),
  .ret (.ite (.op .gt [(.var 1), (.lit (.int 0))]) (.tup [(.var 1), (.var 5), (.op .mod [(.op .toInt [(.op .add [(.op .mul [(.var 3), (.var 2)]), (.var 4)])]), (.var 5)]), (.var 3)]) (.lit (.non)))]⟩
def tSteps (t : Nat) : Fi := ⟨1, 3, [
  .par [(.n (.nm 1)), (.n (.nm 2))] [(.lst []), (.var 0)],
  .whl (.op .notN [(.var 2)]) [.expr (.mut .append 1 [(.var 2)]), .asg (.nm 2) (.call t [false] [0] [(.var 2)])],
  .ret (.var 1)]⟩
def tPart : Fi := ⟨1, 5, [
  .asg (.tp [(.nm 1), (.nm 2), (.nm 3), (.nm 4)]) (.var 0),
  .ret (.op .add [(.op .mul [(.op .fdiv [(.var 2), (.var 4)]), (.op .fdiv [(.op .mul [(.var 1), (.op .sub [(.var 1), (.lit (.int 1))])]), (.lit (.int 2))])]), (.op .mul [(.op .fdiv [(.var 3), (.var 4)]), (.var 1)])])]⟩
def tSumGrid (p s : Nat) : Fi := ⟨1, 2, [
  .ret (.op .sum [(.comp (.call p [false] [0] [(.var 1)]) (.nm 1) .seq [(.call s [false] [0] [(.var 0)])] [] [1])])]⟩
def tGridRight (c : Nat) : Fi := ⟨1, 2, [
  .ifs (.or (.op .no [(.op (.isi [.tuple]) [(.var 0)])]) (.or (.op .ne [(.op .len [(.var 0)]), (.lit (.int 4))]) (.op .no [(.op .all [(.comp (.call c [true] [0] [(.var 1)]) (.nm 1) .seq [(.var 0)] [] [1])])]))) [.ret (.lit (.bl false))] [],
  .ret (.op .gt [(.op .ix [(.var 0), (.lit (.int 3))]), (.lit (.int 0))])]⟩
def tGridCheck (r : Nat) : Fi := ⟨1, 1, [
  .ifs (.op .no [(.call r [true] [0] [(.var 0)])]) [.never] []]⟩
def tGridSum (c s : Nat) : Fi := ⟨1, 1, [
  .expr (.call c [true] [0] [(.var 0)]),
  .ret (.call s [false] [0] [(.var 0)])]⟩
variable {tb : List Fi}
theorem isInt_ok {f : Nat} (h : tb[f]? = some tIsInt) (k : Nat) (i : Int) : callAt tb (k + 1) f [.d (.int i)] = some (.d (.bl true), [.d (.int i)]) := by
  rw [cS, h, bd]
  unfold tIsInt runF
  simp only [v_var, v_lit, v_op, v_tup, v_lst, v_and, v_or, v_ite, v_chain, v_call, v_comp, v_mut, v_met, vs_nil, vs_cons, x_asg, x_asgT, x_set, x_unp, x_par, x_aug, x_if, x_ifl, frzE_nil, frzE_cons, frzSl_un, frzSl_d, frzSl_own, x_whl, x_for, x_ret, x_retN, x_expr, x_brk, x_cont, x_pass, xs_nil, xs_cons, lockA, unlockA, evCond, rdAs, rdA, boolA, bd, frz, frzs, frzR, slA, slAs, refs, postA, keepA, keepAs, g_nm', g_tp', g_sb', gs_nil', gs_cons', isOwn, isSet, isLs, setAt, putN_eq, fr_d, fr_un, fr_own0, slT, asD, retT, n_nm, n_tp, n_tl, ns_nil, ns_cons, augF, augI, items, mutKeeps, mutF, pick, List.filterMap_cons, List.filterMap_nil, List.getElem?_cons_zero, List.getElem?_cons_succ, List.getElem?_nil, List.length_cons, List.length_nil, List.cons_append, List.nil_append, List.replicate, List.map_cons, List.map_nil, List.set_cons_zero, List.set_cons_succ, List.take_succ_cons, List.take_zero, Option.map_some, Nat.le_refl, Nat.zero_add, Nat.reduceAdd, Nat.reduceSub, Nat.reduceLeDiff, Nat.reduceEqDiff, if_true, if_false, Bool.false_eq_true, reduceIte, List.nodup_nil, List.nodup_cons, List.not_mem_nil, not_false_eq_true, and_true, true_and, List.mem_cons, or_false, or_self, forall_eq, forall_eq_or_imp,  Nat.le_add_left, Nat.zero_le, q_add, q_sub, q_neg, q_no, q_eq, q_ne, q_lt, q_le, q_gt, q_ge, q_toInt, q_abs, q_max2, q_lenL, q_lenS, q_lenT, q_ixL, q_ixT, q_ixS, q_isi_ii, q_isi_bi, q_isi_ib, q_isi_bb, q_isi_tt, q_isi_ll, q_isi_lt, q_isi_tl, q_isN_n, q_isN_t, q_isN_i, q_notN_n, q_notN_t, q_notN_i, q_eqS, q_neS, q_all, q_any, q_sum, q_tuple, q_listT, q_listL, q_idI, q_gcd, q_min2, q_isB, q_notB, Bool.not_true, Bool.not_false, Bool.not_not, at1_0, ixN1_0, at2_0, ixN2_0, at2_1, ixN2_1, at3_0, ixN3_0, at3_1, ixN3_1, at3_2, ixN3_2, at4_0, ixN4_0, at4_1, ixN4_1, at4_2, ixN4_2, at4_3, ixN4_3, at5_0, ixN5_0, at5_1, ixN5_1, at5_2, ixN5_2, at5_3, ixN5_3, at5_4, ixN5_4, at6_0, ixN6_0, at6_1, ixN6_1, at6_2, ixN6_2, at6_3, ixN6_3, at6_4, ixN6_4, at6_5, ixN6_5, ln0, ln1, ln2, ln3, ln4, ln5, ln6, ln7, ln8, ln9, ln10, ln11, ln12, ln13, ln14, ln15, ln16, ln17, ln18, ln19, ln20, ln21, ln22, ln23, ln24, nc0, nc1, nc2, nc3, nc4, nc5, nc6, nc7, nc8, nc9, nc10, nc11, nc12, nc13, nc14, nc15, nc16, false_imp_iff, implies_true, beq_self_eq_true, Int.reduceBEq, Int.reduceLT, Int.reduceLE, decide_true, decide_false, List.all_cons, List.all_nil, List.any_cons, List.any_nil, id_eq, Bool.and_true, Bool.true_and, Bool.and_false, Bool.false_and, Bool.or_true, Bool.true_or, Bool.or_false, Bool.false_or]
theorem isCount_ok {f g : Nat} (h : tb[f]? = some tIsInt) (h2 : tb[g]? = some (tIsCount f)) (k : Nat) (i : Int) : callAt tb (k + 2) g [.d (.int i)] = some (.d (.bl (decide (0 ≤ i))), [.d (.int i)]) := by
  rw [cS, h2, bd]
  unfold tIsCount runF
  simp only [v_var, v_lit, v_op, v_tup, v_lst, v_and, v_or, v_ite, v_chain, v_call, v_comp, v_mut, v_met, vs_nil, vs_cons, x_asg, x_asgT, x_set, x_unp, x_par, x_aug, x_if, x_ifl, frzE_nil, frzE_cons, frzSl_un, frzSl_d, frzSl_own, x_whl, x_for, x_ret, x_retN, x_expr, x_brk, x_cont, x_pass, xs_nil, xs_cons, lockA, unlockA, evCond, rdAs, rdA, boolA, bd, frz, frzs, frzR, slA, slAs, refs, postA, keepA, keepAs, g_nm', g_tp', g_sb', gs_nil', gs_cons', isOwn, isSet, isLs, setAt, putN_eq, fr_d, fr_un, fr_own0, slT, asD, retT, n_nm, n_tp, n_tl, ns_nil, ns_cons, augF, augI, items, mutKeeps, mutF, pick, List.filterMap_cons, List.filterMap_nil, List.getElem?_cons_zero, List.getElem?_cons_succ, List.getElem?_nil, List.length_cons, List.length_nil, List.cons_append, List.nil_append, List.replicate, List.map_cons, List.map_nil, List.set_cons_zero, List.set_cons_succ, List.take_succ_cons, List.take_zero, Option.map_some, Nat.le_refl, Nat.zero_add, Nat.reduceAdd, Nat.reduceSub, Nat.reduceLeDiff, Nat.reduceEqDiff, if_true, if_false, Bool.false_eq_true, reduceIte, List.nodup_nil, List.nodup_cons, List.not_mem_nil, not_false_eq_true, and_true, true_and, List.mem_cons, or_false, or_self, forall_eq, forall_eq_or_imp,  Nat.le_add_left, Nat.zero_le, q_add, q_sub, q_neg, q_no, q_eq, q_ne, q_lt, q_le, q_gt, q_ge, q_toInt, q_abs, q_max2, q_lenL, q_lenS, q_lenT, q_ixL, q_ixT, q_ixS, q_isi_ii, q_isi_bi, q_isi_ib, q_isi_bb, q_isi_tt, q_isi_ll, q_isi_lt, q_isi_tl, q_isN_n, q_isN_t, q_isN_i, q_notN_n, q_notN_t, q_notN_i, q_eqS, q_neS, q_all, q_any, q_sum, q_tuple, q_listT, q_listL, q_idI, q_gcd, q_min2, q_isB, q_notB, Bool.not_true, Bool.not_false, Bool.not_not, at1_0, ixN1_0, at2_0, ixN2_0, at2_1, ixN2_1, at3_0, ixN3_0, at3_1, ixN3_1, at3_2, ixN3_2, at4_0, ixN4_0, at4_1, ixN4_1, at4_2, ixN4_2, at4_3, ixN4_3, at5_0, ixN5_0, at5_1, ixN5_1, at5_2, ixN5_2, at5_3, ixN5_3, at5_4, ixN5_4, at6_0, ixN6_0, at6_1, ixN6_1, at6_2, ixN6_2, at6_3, ixN6_3, at6_4, ixN6_4, at6_5, ixN6_5, ln0, ln1, ln2, ln3, ln4, ln5, ln6, ln7, ln8, ln9, ln10, ln11, ln12, ln13, ln14, ln15, ln16, ln17, ln18, ln19, ln20, ln21, ln22, ln23, ln24, nc0, nc1, nc2, nc3, nc4, nc5, nc6, nc7, nc8, nc9, nc10, nc11, nc12, nc13, nc14, nc15, nc16, false_imp_iff, implies_true, beq_self_eq_true, Int.reduceBEq, Int.reduceLT, Int.reduceLE, decide_true, decide_false, List.all_cons, List.all_nil, List.any_cons, List.any_nil, id_eq, Bool.and_true, Bool.true_and, Bool.and_false, Bool.false_and, Bool.or_true, Bool.true_or, Bool.or_false, Bool.false_or, isInt_ok h]
/-- a grid of four numbers -/
def grid (n a b m : Int) : D := .tup [.int n, .int a, .int b, .int m]
/-- numbers that a grid may have here -/
structure Gr (n a b m : Int) : Prop where
  n0 : 0 ≤ n
  a0 : 0 ≤ a
  b0 : 0 ≤ b
  m0 : 0 < m
  n1 : n < 2 ^ 500
  a1 : a < 2 ^ 500
  b1 : b < 2 ^ 500
  m1 : m < 2 ^ 500
theorem turned_ok {t : Nat} (ht : tb[t]? = some tTurned) (k : Nat) {n a b m : Int} (g : Gr n a b m) :
    callAt tb (k + 1) t [.d (grid n a b m)] = some (.d (if 0 < (a % m * n + b % m) / m then grid ((a % m * n + b % m) / m) m ((a % m * n + b % m) % m) (a % m) else .non), [.d (grid n a b m)]) := by
  have f1 : a.fmod m = a % m := Int.fmod_eq_emod_of_nonneg _ (by have := g.m0; omega)
  have f2 : b.fmod m = b % m := Int.fmod_eq_emod_of_nonneg _ (by have := g.m0; omega)
  have mz : (m != 0) = true := by rw [bne_iff_ne]; have := g.m0; omega
  have r1 := Int.emod_nonneg a (show m ≠ 0 by have := g.m0; omega)
  have r2 := Int.emod_lt_of_pos a g.m0
  have mo : mulOk (a % m) n = true := mulOk_of (m := 500) (n := 500) (by have := g.m1; omega) (by have := g.n1; have := g.n0; omega) (by decide) (by decide) (by decide)
  have dv : divOk m = true := divOk_of (n := 500) (by have := g.m0; omega) (by have := g.m1; have := g.m0; omega) (by decide) (by decide)
  have f3 : (a % m * n + b % m).fdiv m = (a % m * n + b % m) / m := Int.fdiv_eq_ediv_of_nonneg _ (by have := g.m0; omega)
  have f4 : (a % m * n + b % m).fmod m = (a % m * n + b % m) % m := Int.fmod_eq_emod_of_nonneg _ (by have := g.m0; omega)
  rw [cS, ht, bd]
  unfold tTurned runF grid
  by_cases hr : 0 < (a % m * n + b % m) / m
  · simp only [v_var, v_lit, v_op, v_tup, v_lst, v_and, v_or, v_ite, v_chain, v_call, v_comp, v_mut, v_met, vs_nil, vs_cons, x_asg, x_asgT, x_set, x_unp, x_par, x_aug, x_if, x_ifl, frzE_nil, frzE_cons, frzSl_un, frzSl_d, frzSl_own, x_whl, x_for, x_ret, x_retN, x_expr, x_brk, x_cont, x_pass, xs_nil, xs_cons, lockA, unlockA, evCond, rdAs, rdA, boolA, bd, frz, frzs, frzR, slA, slAs, refs, postA, keepA, keepAs, g_nm', g_tp', g_sb', gs_nil', gs_cons', isOwn, isSet, isLs, setAt, putN_eq, fr_d, fr_un, fr_own0, slT, asD, retT, n_nm, n_tp, n_tl, ns_nil, ns_cons, augF, augI, items, mutKeeps, mutF, pick, List.filterMap_cons, List.filterMap_nil, List.getElem?_cons_zero, List.getElem?_cons_succ, List.getElem?_nil, List.length_cons, List.length_nil, List.cons_append, List.nil_append, List.replicate, List.map_cons, List.map_nil, List.set_cons_zero, List.set_cons_succ, List.take_succ_cons, List.take_zero, Option.map_some, Nat.le_refl, Nat.zero_add, Nat.reduceAdd, Nat.reduceSub, Nat.reduceLeDiff, Nat.reduceEqDiff, if_true, if_false, Bool.false_eq_true, reduceIte, List.nodup_nil, List.nodup_cons, List.not_mem_nil, not_false_eq_true, and_true, true_and, List.mem_cons, or_false, or_self, forall_eq, forall_eq_or_imp,  Nat.le_add_left, Nat.zero_le, q_add, q_sub, q_neg, q_no, q_eq, q_ne, q_lt, q_le, q_gt, q_ge, q_toInt, q_abs, q_max2, q_lenL, q_lenS, q_lenT, q_ixL, q_ixT, q_ixS, q_isi_ii, q_isi_bi, q_isi_ib, q_isi_bb, q_isi_tt, q_isi_ll, q_isi_lt, q_isi_tl, q_isN_n, q_isN_t, q_isN_i, q_notN_n, q_notN_t, q_notN_i, q_eqS, q_neS, q_all, q_any, q_sum, q_tuple, q_listT, q_listL, q_idI, q_gcd, q_min2, q_isB, q_notB, Bool.not_true, Bool.not_false, Bool.not_not, at1_0, ixN1_0, at2_0, ixN2_0, at2_1, ixN2_1, at3_0, ixN3_0, at3_1, ixN3_1, at3_2, ixN3_2, at4_0, ixN4_0, at4_1, ixN4_1, at4_2, ixN4_2, at4_3, ixN4_3, at5_0, ixN5_0, at5_1, ixN5_1, at5_2, ixN5_2, at5_3, ixN5_3, at5_4, ixN5_4, at6_0, ixN6_0, at6_1, ixN6_1, at6_2, ixN6_2, at6_3, ixN6_3, at6_4, ixN6_4, at6_5, ixN6_5, ln0, ln1, ln2, ln3, ln4, ln5, ln6, ln7, ln8, ln9, ln10, ln11, ln12, ln13, ln14, ln15, ln16, ln17, ln18, ln19, ln20, ln21, ln22, ln23, ln24, nc0, nc1, nc2, nc3, nc4, nc5, nc6, nc7, nc8, nc9, nc10, nc11, nc12, nc13, nc14, nc15, nc16, false_imp_iff, implies_true, beq_self_eq_true, Int.reduceBEq, Int.reduceLT, Int.reduceLE, decide_true, decide_false, List.all_cons, List.all_nil, List.any_cons, List.any_nil, id_eq, Bool.and_true, Bool.true_and, Bool.and_false, Bool.false_and, Bool.or_true, Bool.true_or, Bool.or_false, Bool.false_or, q_mod mz, f1, f2]
    simp only [v_var, v_lit, v_op, v_tup, v_lst, v_and, v_or, v_ite, v_chain, v_call, v_comp, v_mut, v_met, vs_nil, vs_cons, x_asg, x_asgT, x_set, x_unp, x_par, x_aug, x_if, x_ifl, frzE_nil, frzE_cons, frzSl_un, frzSl_d, frzSl_own, x_whl, x_for, x_ret, x_retN, x_expr, x_brk, x_cont, x_pass, xs_nil, xs_cons, lockA, unlockA, evCond, rdAs, rdA, boolA, bd, frz, frzs, frzR, slA, slAs, refs, postA, keepA, keepAs, g_nm', g_tp', g_sb', gs_nil', gs_cons', isOwn, isSet, isLs, setAt, putN_eq, fr_d, fr_un, fr_own0, slT, asD, retT, n_nm, n_tp, n_tl, ns_nil, ns_cons, augF, augI, items, mutKeeps, mutF, pick, List.filterMap_cons, List.filterMap_nil, List.getElem?_cons_zero, List.getElem?_cons_succ, List.getElem?_nil, List.length_cons, List.length_nil, List.cons_append, List.nil_append, List.replicate, List.map_cons, List.map_nil, List.set_cons_zero, List.set_cons_succ, List.take_succ_cons, List.take_zero, Option.map_some, Nat.le_refl, Nat.zero_add, Nat.reduceAdd, Nat.reduceSub, Nat.reduceLeDiff, Nat.reduceEqDiff, if_true, if_false, Bool.false_eq_true, reduceIte, List.nodup_nil, List.nodup_cons, List.not_mem_nil, not_false_eq_true, and_true, true_and, List.mem_cons, or_false, or_self, forall_eq, forall_eq_or_imp,  Nat.le_add_left, Nat.zero_le, q_add, q_sub, q_neg, q_no, q_eq, q_ne, q_lt, q_le, q_gt, q_ge, q_toInt, q_abs, q_max2, q_lenL, q_lenS, q_lenT, q_ixL, q_ixT, q_ixS, q_isi_ii, q_isi_bi, q_isi_ib, q_isi_bb, q_isi_tt, q_isi_ll, q_isi_lt, q_isi_tl, q_isN_n, q_isN_t, q_isN_i, q_notN_n, q_notN_t, q_notN_i, q_eqS, q_neS, q_all, q_any, q_sum, q_tuple, q_listT, q_listL, q_idI, q_gcd, q_min2, q_isB, q_notB, Bool.not_true, Bool.not_false, Bool.not_not, at1_0, ixN1_0, at2_0, ixN2_0, at2_1, ixN2_1, at3_0, ixN3_0, at3_1, ixN3_1, at3_2, ixN3_2, at4_0, ixN4_0, at4_1, ixN4_1, at4_2, ixN4_2, at4_3, ixN4_3, at5_0, ixN5_0, at5_1, ixN5_1, at5_2, ixN5_2, at5_3, ixN5_3, at5_4, ixN5_4, at6_0, ixN6_0, at6_1, ixN6_1, at6_2, ixN6_2, at6_3, ixN6_3, at6_4, ixN6_4, at6_5, ixN6_5, ln0, ln1, ln2, ln3, ln4, ln5, ln6, ln7, ln8, ln9, ln10, ln11, ln12, ln13, ln14, ln15, ln16, ln17, ln18, ln19, ln20, ln21, ln22, ln23, ln24, nc0, nc1, nc2, nc3, nc4, nc5, nc6, nc7, nc8, nc9, nc10, nc11, nc12, nc13, nc14, nc15, nc16, false_imp_iff, implies_true, beq_self_eq_true, Int.reduceBEq, Int.reduceLT, Int.reduceLE, decide_true, decide_false, List.all_cons, List.all_nil, List.any_cons, List.any_nil, id_eq, Bool.and_true, Bool.true_and, Bool.and_false, Bool.false_and, Bool.or_true, Bool.true_or, Bool.or_false, Bool.false_or, q_mul mo, q_mod mz, q_fdiv dv, f3, f4]
    simp only [v_var, v_lit, v_op, v_tup, v_lst, v_and, v_or, v_ite, v_chain, v_call, v_comp, v_mut, v_met, vs_nil, vs_cons, x_asg, x_asgT, x_set, x_unp, x_par, x_aug, x_if, x_ifl, frzE_nil, frzE_cons, frzSl_un, frzSl_d, frzSl_own, x_whl, x_for, x_ret, x_retN, x_expr, x_brk, x_cont, x_pass, xs_nil, xs_cons, lockA, unlockA, evCond, rdAs, rdA, boolA, bd, frz, frzs, frzR, slA, slAs, refs, postA, keepA, keepAs, g_nm', g_tp', g_sb', gs_nil', gs_cons', isOwn, isSet, isLs, setAt, putN_eq, fr_d, fr_un, fr_own0, slT, asD, retT, n_nm, n_tp, n_tl, ns_nil, ns_cons, augF, augI, items, mutKeeps, mutF, pick, List.filterMap_cons, List.filterMap_nil, List.getElem?_cons_zero, List.getElem?_cons_succ, List.getElem?_nil, List.length_cons, List.length_nil, List.cons_append, List.nil_append, List.replicate, List.map_cons, List.map_nil, List.set_cons_zero, List.set_cons_succ, List.take_succ_cons, List.take_zero, Option.map_some, Nat.le_refl, Nat.zero_add, Nat.reduceAdd, Nat.reduceSub, Nat.reduceLeDiff, Nat.reduceEqDiff, if_true, if_false, Bool.false_eq_true, reduceIte, List.nodup_nil, List.nodup_cons, List.not_mem_nil, not_false_eq_true, and_true, true_and, List.mem_cons, or_false, or_self, forall_eq, forall_eq_or_imp,  Nat.le_add_left, Nat.zero_le, q_add, q_sub, q_neg, q_no, q_eq, q_ne, q_lt, q_le, q_gt, q_ge, q_toInt, q_abs, q_max2, q_lenL, q_lenS, q_lenT, q_ixL, q_ixT, q_ixS, q_isi_ii, q_isi_bi, q_isi_ib, q_isi_bb, q_isi_tt, q_isi_ll, q_isi_lt, q_isi_tl, q_isN_n, q_isN_t, q_isN_i, q_notN_n, q_notN_t, q_notN_i, q_eqS, q_neS, q_all, q_any, q_sum, q_tuple, q_listT, q_listL, q_idI, q_gcd, q_min2, q_isB, q_notB, Bool.not_true, Bool.not_false, Bool.not_not, at1_0, ixN1_0, at2_0, ixN2_0, at2_1, ixN2_1, at3_0, ixN3_0, at3_1, ixN3_1, at3_2, ixN3_2, at4_0, ixN4_0, at4_1, ixN4_1, at4_2, ixN4_2, at4_3, ixN4_3, at5_0, ixN5_0, at5_1, ixN5_1, at5_2, ixN5_2, at5_3, ixN5_3, at5_4, ixN5_4, at6_0, ixN6_0, at6_1, ixN6_1, at6_2, ixN6_2, at6_3, ixN6_3, at6_4, ixN6_4, at6_5, ixN6_5, ln0, ln1, ln2, ln3, ln4, ln5, ln6, ln7, ln8, ln9, ln10, ln11, ln12, ln13, ln14, ln15, ln16, ln17, ln18, ln19, ln20, ln21, ln22, ln23, ln24, nc0, nc1, nc2, nc3, nc4, nc5, nc6, nc7, nc8, nc9, nc10, nc11, nc12, nc13, nc14, nc15, nc16, false_imp_iff, implies_true, beq_self_eq_true, Int.reduceBEq, Int.reduceLT, Int.reduceLE, decide_true, decide_false, List.all_cons, List.all_nil, List.any_cons, List.any_nil, id_eq, Bool.and_true, Bool.true_and, Bool.and_false, Bool.false_and, Bool.or_true, Bool.true_or, Bool.or_false, Bool.false_or, decide_eq_true hr, if_pos hr]
  · simp only [v_var, v_lit, v_op, v_tup, v_lst, v_and, v_or, v_ite, v_chain, v_call, v_comp, v_mut, v_met, vs_nil, vs_cons, x_asg, x_asgT, x_set, x_unp, x_par, x_aug, x_if, x_ifl, frzE_nil, frzE_cons, frzSl_un, frzSl_d, frzSl_own, x_whl, x_for, x_ret, x_retN, x_expr, x_brk, x_cont, x_pass, xs_nil, xs_cons, lockA, unlockA, evCond, rdAs, rdA, boolA, bd, frz, frzs, frzR, slA, slAs, refs, postA, keepA, keepAs, g_nm', g_tp', g_sb', gs_nil', gs_cons', isOwn, isSet, isLs, setAt, putN_eq, fr_d, fr_un, fr_own0, slT, asD, retT, n_nm, n_tp, n_tl, ns_nil, ns_cons, augF, augI, items, mutKeeps, mutF, pick, List.filterMap_cons, List.filterMap_nil, List.getElem?_cons_zero, List.getElem?_cons_succ, List.getElem?_nil, List.length_cons, List.length_nil, List.cons_append, List.nil_append, List.replicate, List.map_cons, List.map_nil, List.set_cons_zero, List.set_cons_succ, List.take_succ_cons, List.take_zero, Option.map_some, Nat.le_refl, Nat.zero_add, Nat.reduceAdd, Nat.reduceSub, Nat.reduceLeDiff, Nat.reduceEqDiff, if_true, if_false, Bool.false_eq_true, reduceIte, List.nodup_nil, List.nodup_cons, List.not_mem_nil, not_false_eq_true, and_true, true_and, List.mem_cons, or_false, or_self, forall_eq, forall_eq_or_imp,  Nat.le_add_left, Nat.zero_le, q_add, q_sub, q_neg, q_no, q_eq, q_ne, q_lt, q_le, q_gt, q_ge, q_toInt, q_abs, q_max2, q_lenL, q_lenS, q_lenT, q_ixL, q_ixT, q_ixS, q_isi_ii, q_isi_bi, q_isi_ib, q_isi_bb, q_isi_tt, q_isi_ll, q_isi_lt, q_isi_tl, q_isN_n, q_isN_t, q_isN_i, q_notN_n, q_notN_t, q_notN_i, q_eqS, q_neS, q_all, q_any, q_sum, q_tuple, q_listT, q_listL, q_idI, q_gcd, q_min2, q_isB, q_notB, Bool.not_true, Bool.not_false, Bool.not_not, at1_0, ixN1_0, at2_0, ixN2_0, at2_1, ixN2_1, at3_0, ixN3_0, at3_1, ixN3_1, at3_2, ixN3_2, at4_0, ixN4_0, at4_1, ixN4_1, at4_2, ixN4_2, at4_3, ixN4_3, at5_0, ixN5_0, at5_1, ixN5_1, at5_2, ixN5_2, at5_3, ixN5_3, at5_4, ixN5_4, at6_0, ixN6_0, at6_1, ixN6_1, at6_2, ixN6_2, at6_3, ixN6_3, at6_4, ixN6_4, at6_5, ixN6_5, ln0, ln1, ln2, ln3, ln4, ln5, ln6, ln7, ln8, ln9, ln10, ln11, ln12, ln13, ln14, ln15, ln16, ln17, ln18, ln19, ln20, ln21, ln22, ln23, ln24, nc0, nc1, nc2, nc3, nc4, nc5, nc6, nc7, nc8, nc9, nc10, nc11, nc12, nc13, nc14, nc15, nc16, false_imp_iff, implies_true, beq_self_eq_true, Int.reduceBEq, Int.reduceLT, Int.reduceLE, decide_true, decide_false, List.all_cons, List.all_nil, List.any_cons, List.any_nil, id_eq, Bool.and_true, Bool.true_and, Bool.and_false, Bool.false_and, Bool.or_true, Bool.true_or, Bool.or_false, Bool.false_or, q_mod mz, f1, f2]
    simp only [v_var, v_lit, v_op, v_tup, v_lst, v_and, v_or, v_ite, v_chain, v_call, v_comp, v_mut, v_met, vs_nil, vs_cons, x_asg, x_asgT, x_set, x_unp, x_par, x_aug, x_if, x_ifl, frzE_nil, frzE_cons, frzSl_un, frzSl_d, frzSl_own, x_whl, x_for, x_ret, x_retN, x_expr, x_brk, x_cont, x_pass, xs_nil, xs_cons, lockA, unlockA, evCond, rdAs, rdA, boolA, bd, frz, frzs, frzR, slA, slAs, refs, postA, keepA, keepAs, g_nm', g_tp', g_sb', gs_nil', gs_cons', isOwn, isSet, isLs, setAt, putN_eq, fr_d, fr_un, fr_own0, slT, asD, retT, n_nm, n_tp, n_tl, ns_nil, ns_cons, augF, augI, items, mutKeeps, mutF, pick, List.filterMap_cons, List.filterMap_nil, List.getElem?_cons_zero, List.getElem?_cons_succ, List.getElem?_nil, List.length_cons, List.length_nil, List.cons_append, List.nil_append, List.replicate, List.map_cons, List.map_nil, List.set_cons_zero, List.set_cons_succ, List.take_succ_cons, List.take_zero, Option.map_some, Nat.le_refl, Nat.zero_add, Nat.reduceAdd, Nat.reduceSub, Nat.reduceLeDiff, Nat.reduceEqDiff, if_true, if_false, Bool.false_eq_true, reduceIte, List.nodup_nil, List.nodup_cons, List.not_mem_nil, not_false_eq_true, and_true, true_and, List.mem_cons, or_false, or_self, forall_eq, forall_eq_or_imp,  Nat.le_add_left, Nat.zero_le, q_add, q_sub, q_neg, q_no, q_eq, q_ne, q_lt, q_le, q_gt, q_ge, q_toInt, q_abs, q_max2, q_lenL, q_lenS, q_lenT, q_ixL, q_ixT, q_ixS, q_isi_ii, q_isi_bi, q_isi_ib, q_isi_bb, q_isi_tt, q_isi_ll, q_isi_lt, q_isi_tl, q_isN_n, q_isN_t, q_isN_i, q_notN_n, q_notN_t, q_notN_i, q_eqS, q_neS, q_all, q_any, q_sum, q_tuple, q_listT, q_listL, q_idI, q_gcd, q_min2, q_isB, q_notB, Bool.not_true, Bool.not_false, Bool.not_not, at1_0, ixN1_0, at2_0, ixN2_0, at2_1, ixN2_1, at3_0, ixN3_0, at3_1, ixN3_1, at3_2, ixN3_2, at4_0, ixN4_0, at4_1, ixN4_1, at4_2, ixN4_2, at4_3, ixN4_3, at5_0, ixN5_0, at5_1, ixN5_1, at5_2, ixN5_2, at5_3, ixN5_3, at5_4, ixN5_4, at6_0, ixN6_0, at6_1, ixN6_1, at6_2, ixN6_2, at6_3, ixN6_3, at6_4, ixN6_4, at6_5, ixN6_5, ln0, ln1, ln2, ln3, ln4, ln5, ln6, ln7, ln8, ln9, ln10, ln11, ln12, ln13, ln14, ln15, ln16, ln17, ln18, ln19, ln20, ln21, ln22, ln23, ln24, nc0, nc1, nc2, nc3, nc4, nc5, nc6, nc7, nc8, nc9, nc10, nc11, nc12, nc13, nc14, nc15, nc16, false_imp_iff, implies_true, beq_self_eq_true, Int.reduceBEq, Int.reduceLT, Int.reduceLE, decide_true, decide_false, List.all_cons, List.all_nil, List.any_cons, List.any_nil, id_eq, Bool.and_true, Bool.true_and, Bool.and_false, Bool.false_and, Bool.or_true, Bool.true_or, Bool.or_false, Bool.false_or, q_mul mo, q_mod mz, q_fdiv dv, f3, f4]
    simp only [v_var, v_lit, v_op, v_tup, v_lst, v_and, v_or, v_ite, v_chain, v_call, v_comp, v_mut, v_met, vs_nil, vs_cons, x_asg, x_asgT, x_set, x_unp, x_par, x_aug, x_if, x_ifl, frzE_nil, frzE_cons, frzSl_un, frzSl_d, frzSl_own, x_whl, x_for, x_ret, x_retN, x_expr, x_brk, x_cont, x_pass, xs_nil, xs_cons, lockA, unlockA, evCond, rdAs, rdA, boolA, bd, frz, frzs, frzR, slA, slAs, refs, postA, keepA, keepAs, g_nm', g_tp', g_sb', gs_nil', gs_cons', isOwn, isSet, isLs, setAt, putN_eq, fr_d, fr_un, fr_own0, slT, asD, retT, n_nm, n_tp, n_tl, ns_nil, ns_cons, augF, augI, items, mutKeeps, mutF, pick, List.filterMap_cons, List.filterMap_nil, List.getElem?_cons_zero, List.getElem?_cons_succ, List.getElem?_nil, List.length_cons, List.length_nil, List.cons_append, List.nil_append, List.replicate, List.map_cons, List.map_nil, List.set_cons_zero, List.set_cons_succ, List.take_succ_cons, List.take_zero, Option.map_some, Nat.le_refl, Nat.zero_add, Nat.reduceAdd, Nat.reduceSub, Nat.reduceLeDiff, Nat.reduceEqDiff, if_true, if_false, Bool.false_eq_true, reduceIte, List.nodup_nil, List.nodup_cons, List.not_mem_nil, not_false_eq_true, and_true, true_and, List.mem_cons, or_false, or_self, forall_eq, forall_eq_or_imp,  Nat.le_add_left, Nat.zero_le, q_add, q_sub, q_neg, q_no, q_eq, q_ne, q_lt, q_le, q_gt, q_ge, q_toInt, q_abs, q_max2, q_lenL, q_lenS, q_lenT, q_ixL, q_ixT, q_ixS, q_isi_ii, q_isi_bi, q_isi_ib, q_isi_bb, q_isi_tt, q_isi_ll, q_isi_lt, q_isi_tl, q_isN_n, q_isN_t, q_isN_i, q_notN_n, q_notN_t, q_notN_i, q_eqS, q_neS, q_all, q_any, q_sum, q_tuple, q_listT, q_listL, q_idI, q_gcd, q_min2, q_isB, q_notB, Bool.not_true, Bool.not_false, Bool.not_not, at1_0, ixN1_0, at2_0, ixN2_0, at2_1, ixN2_1, at3_0, ixN3_0, at3_1, ixN3_1, at3_2, ixN3_2, at4_0, ixN4_0, at4_1, ixN4_1, at4_2, ixN4_2, at4_3, ixN4_3, at5_0, ixN5_0, at5_1, ixN5_1, at5_2, ixN5_2, at5_3, ixN5_3, at5_4, ixN5_4, at6_0, ixN6_0, at6_1, ixN6_1, at6_2, ixN6_2, at6_3, ixN6_3, at6_4, ixN6_4, at6_5, ixN6_5, ln0, ln1, ln2, ln3, ln4, ln5, ln6, ln7, ln8, ln9, ln10, ln11, ln12, ln13, ln14, ln15, ln16, ln17, ln18, ln19, ln20, ln21, ln22, ln23, ln24, nc0, nc1, nc2, nc3, nc4, nc5, nc6, nc7, nc8, nc9, nc10, nc11, nc12, nc13, nc14, nc15, nc16, false_imp_iff, implies_true, beq_self_eq_true, Int.reduceBEq, Int.reduceLT, Int.reduceLE, decide_true, decide_false, List.all_cons, List.all_nil, List.any_cons, List.any_nil, id_eq, Bool.and_true, Bool.true_and, Bool.and_false, Bool.false_and, Bool.or_true, Bool.true_or, Bool.or_false, Bool.false_or, decide_eq_false hr, if_neg hr]
/-- a part of a grid's sum -/
def psum (q : Int × Int × Int × Int) : Int := q.2.1 / q.2.2.2 * (q.1 * (q.1 - 1) / 2) + q.2.2.1 / q.2.2.2 * q.1
def gD4 (q : Int × Int × Int × Int) : D := grid q.1 q.2.1 q.2.2.1 q.2.2.2
/-- the next grid is lesser -/
theorem next_ok {n a b m : Int} (g : Gr n a b m) (hr : 0 < (a % m * n + b % m) / m) : Gr ((a % m * n + b % m) / m) m ((a % m * n + b % m) % m) (a % m) ∧ FS a b m n.toNat = psum (n, a, b, m) + FS m ((a % m * n + b % m) % m) (a % m) ((a % m * n + b % m) / m).toNat ∧ ∀ j : Nat, m * (a % m) < 2 ^ (j + 1) → a % m * (m % (a % m)) < 2 ^ j := by
  obtain ⟨n0, a0, b0, m0, n1, a1, b1, m1⟩ := g
  have r1 := Int.emod_nonneg a (show m ≠ 0 by omega)
  have r2 := Int.emod_lt_of_pos a m0
  have s1 := Int.emod_nonneg b (show m ≠ 0 by omega)
  have s2 := Int.emod_lt_of_pos b m0
  have rp : 0 < a % m := by
    rcases Int.lt_or_eq_of_le r1 with h | h
    · exact h
    · rw [← h, Int.zero_mul, Int.zero_add, Int.ediv_eq_zero_of_lt s1 s2] at hr
      omega
  have le : (a % m * n + b % m) / m < n + 1 := by
    refine Int.ediv_lt_of_lt_mul m0 ?_
    have : a % m * n ≤ m * n := Int.mul_le_mul_of_nonneg_right (by omega) n0
    have e : (n + 1) * m = m * n + m := by grind
    omega
  refine ⟨⟨by omega, by omega, Int.emod_nonneg _ (by omega), rp, by omega, m1, ?_, by omega⟩, ?_, fun j hj => ?_⟩
  · have := Int.emod_lt_of_pos (a % m * n + b % m) m0
    omega
  · have h1 := fs_part (a := a) (b := b) m0 n.toNat
    have h2 := fs_turn (a := a % m) (b := b % m) rp r2 s1 s2 n.toNat
    have hn : ((n.toNat : Nat) : Int) = n := Int.toNat_of_nonneg n0
    rw [hn] at h1 h2
    rw [h1, h2]
    unfold psum
    have := tri_eq n.toNat
    rw [hn] at this
    simp only
    rw [this]
  · obtain ⟨e1, e2, e3⟩ := dv_eq m rp
    have q1 : 1 ≤ m / (a % m) := Int.le_ediv_of_mul_le rp (by omega)
    have q2 : a % m * 1 ≤ a % m * (m / (a % m)) := Int.mul_le_mul_of_nonneg_left q1 (by omega)
    have q3 : a % m + m % (a % m) ≤ m := by omega
    have q4 : (a % m + m % (a % m)) * (a % m) ≤ m * (a % m) := Int.mul_le_mul_of_nonneg_right q3 (by omega)
    have q5 : m % (a % m) * (a % m) ≤ (a % m) * (a % m) := Int.mul_le_mul_of_nonneg_right (by omega) (by omega)
    have q6 : (a % m + m % (a % m)) * (a % m) = (a % m) * (a % m) + a % m * (m % (a % m)) := by grind
    have q7 : m % (a % m) * (a % m) = a % m * (m % (a % m)) := Int.mul_comm _ _
    have p2 : (2 : Int) ^ (j + 1) = 2 * 2 ^ j := by rw [Int.pow_succ, Int.mul_comm]
    rw [p2] at hj
    by_cases z : m % (a % m) * (a % m) = (a % m) * (a % m)
    · have : m % (a % m) = a % m := by
        have := Int.eq_of_mul_eq_mul_right (by omega) z
        exact this
      omega
    · omega
theorem last_ok {n a b m : Int} (g : Gr n a b m) (hr : ¬ 0 < (a % m * n + b % m) / m) : FS a b m n.toNat = psum (n, a, b, m) := by
  obtain ⟨n0, a0, b0, m0, n1, a1, b1, m1⟩ := g
  have r1 := Int.emod_nonneg a (show m ≠ 0 by omega)
  have r2 := Int.emod_lt_of_pos a m0
  have s1 := Int.emod_nonneg b (show m ≠ 0 by omega)
  have s2 := Int.emod_lt_of_pos b m0
  have hn : ((n.toNat : Nat) : Int) = n := Int.toNat_of_nonneg n0
  have h1 := fs_part (a := a) (b := b) m0 n.toNat
  have z : FS (a % m) (b % m) m n.toNat = 0 := by
    rcases Int.lt_or_eq_of_le r1 with h | h
    · have h2 := fs_turn (a := a % m) (b := b % m) h r2 s1 s2 n.toNat
      rw [hn] at h2
      have : ((a % m * n + b % m) / m).toNat = 0 := by omega
      rw [h2, this]; rfl
    · rw [← h]; exact fs_zero_b m0 s1 s2 _
  rw [z, hn] at h1
  rw [h1]
  unfold psum
  have := tri_eq n.toNat
  rw [hn] at this
  simp only
  rw [this]; omega
theorem steps_loop {t : Nat} (ht : tb[t]? = some tTurned) (k : Nat) (s0 : Sl) : ∀ (j : Nat) {n a b m : Int}, Gr n a b m → m * (a % m) < 2 ^ j → ∀ (fu : Nat), j + 2 ≤ fu → ∀ pre : List D, pre.length + j + 1 < 5000 →
    ∃ L : List (Int × Int × Int × Int), whlN (testF (callAt tb (k + 1)) (.op .notN [(.var 2)])) (blockF (callAt tb (k + 1)) Fuel [.expr (.mut .append 1 [(.var 2)]), .asg (.nm 2) (.call t [false] [0] [(.var 2)])]) fu [s0, .own pre 0, .d (grid n a b m)] = some (.nx [s0, .own (pre ++ L.map gD4) 0, .d .non]) ∧
      (∀ q ∈ L, Gr q.1 q.2.1 q.2.2.1 q.2.2.2) ∧ (L.map psum).sum = FS a b m n.toNat ∧ L.length ≤ j + 1 := by
  have test1 : ∀ (pre : List D) (n a b m : Int), testF (callAt tb (k + 1)) (.op .notN [(.var 2)]) [s0, .own pre 0, .d (grid n a b m)] = some (true, [s0, .own pre 0, .d (grid n a b m)]) := fun pre n a b m => by
    unfold testF grid
    simp only [v_var, v_lit, v_op, v_tup, v_lst, v_and, v_or, v_ite, v_chain, v_call, v_comp, v_mut, v_met, vs_nil, vs_cons, x_asg, x_asgT, x_set, x_unp, x_par, x_aug, x_if, x_ifl, frzE_nil, frzE_cons, frzSl_un, frzSl_d, frzSl_own, x_whl, x_for, x_ret, x_retN, x_expr, x_brk, x_cont, x_pass, xs_nil, xs_cons, lockA, unlockA, evCond, rdAs, rdA, boolA, bd, frz, frzs, frzR, slA, slAs, refs, postA, keepA, keepAs, g_nm', g_tp', g_sb', gs_nil', gs_cons', isOwn, isSet, isLs, setAt, putN_eq, fr_d, fr_un, fr_own0, slT, asD, retT, n_nm, n_tp, n_tl, ns_nil, ns_cons, augF, augI, items, mutKeeps, mutF, pick, List.filterMap_cons, List.filterMap_nil, List.getElem?_cons_zero, List.getElem?_cons_succ, List.getElem?_nil, List.length_cons, List.length_nil, List.cons_append, List.nil_append, List.replicate, List.map_cons, List.map_nil, List.set_cons_zero, List.set_cons_succ, List.take_succ_cons, List.take_zero, Option.map_some, Nat.le_refl, Nat.zero_add, Nat.reduceAdd, Nat.reduceSub, Nat.reduceLeDiff, Nat.reduceEqDiff, if_true, if_false, Bool.false_eq_true, reduceIte, List.nodup_nil, List.nodup_cons, List.not_mem_nil, not_false_eq_true, and_true, true_and, List.mem_cons, or_false, or_self, forall_eq, forall_eq_or_imp,  Nat.le_add_left, Nat.zero_le, q_add, q_sub, q_neg, q_no, q_eq, q_ne, q_lt, q_le, q_gt, q_ge, q_toInt, q_abs, q_max2, q_lenL, q_lenS, q_lenT, q_ixL, q_ixT, q_ixS, q_isi_ii, q_isi_bi, q_isi_ib, q_isi_bb, q_isi_tt, q_isi_ll, q_isi_lt, q_isi_tl, q_isN_n, q_isN_t, q_isN_i, q_notN_n, q_notN_t, q_notN_i, q_eqS, q_neS, q_all, q_any, q_sum, q_tuple, q_listT, q_listL, q_idI, q_gcd, q_min2, q_isB, q_notB, Bool.not_true, Bool.not_false, Bool.not_not, at1_0, ixN1_0, at2_0, ixN2_0, at2_1, ixN2_1, at3_0, ixN3_0, at3_1, ixN3_1, at3_2, ixN3_2, at4_0, ixN4_0, at4_1, ixN4_1, at4_2, ixN4_2, at4_3, ixN4_3, at5_0, ixN5_0, at5_1, ixN5_1, at5_2, ixN5_2, at5_3, ixN5_3, at5_4, ixN5_4, at6_0, ixN6_0, at6_1, ixN6_1, at6_2, ixN6_2, at6_3, ixN6_3, at6_4, ixN6_4, at6_5, ixN6_5, ln0, ln1, ln2, ln3, ln4, ln5, ln6, ln7, ln8, ln9, ln10, ln11, ln12, ln13, ln14, ln15, ln16, ln17, ln18, ln19, ln20, ln21, ln22, ln23, ln24, nc0, nc1, nc2, nc3, nc4, nc5, nc6, nc7, nc8, nc9, nc10, nc11, nc12, nc13, nc14, nc15, nc16, false_imp_iff, implies_true, beq_self_eq_true, Int.reduceBEq, Int.reduceLT, Int.reduceLE, decide_true, decide_false, List.all_cons, List.all_nil, List.any_cons, List.any_nil, id_eq, Bool.and_true, Bool.true_and, Bool.and_false, Bool.false_and, Bool.or_true, Bool.true_or, Bool.or_false, Bool.false_or]
  have test0 : ∀ (pre : List D), testF (callAt tb (k + 1)) (.op .notN [(.var 2)]) [s0, .own pre 0, .d .non] = some (false, [s0, .own pre 0, .d .non]) := fun pre => by
    unfold testF
    simp only [v_var, v_lit, v_op, v_tup, v_lst, v_and, v_or, v_ite, v_chain, v_call, v_comp, v_mut, v_met, vs_nil, vs_cons, x_asg, x_asgT, x_set, x_unp, x_par, x_aug, x_if, x_ifl, frzE_nil, frzE_cons, frzSl_un, frzSl_d, frzSl_own, x_whl, x_for, x_ret, x_retN, x_expr, x_brk, x_cont, x_pass, xs_nil, xs_cons, lockA, unlockA, evCond, rdAs, rdA, boolA, bd, frz, frzs, frzR, slA, slAs, refs, postA, keepA, keepAs, g_nm', g_tp', g_sb', gs_nil', gs_cons', isOwn, isSet, isLs, setAt, putN_eq, fr_d, fr_un, fr_own0, slT, asD, retT, n_nm, n_tp, n_tl, ns_nil, ns_cons, augF, augI, items, mutKeeps, mutF, pick, List.filterMap_cons, List.filterMap_nil, List.getElem?_cons_zero, List.getElem?_cons_succ, List.getElem?_nil, List.length_cons, List.length_nil, List.cons_append, List.nil_append, List.replicate, List.map_cons, List.map_nil, List.set_cons_zero, List.set_cons_succ, List.take_succ_cons, List.take_zero, Option.map_some, Nat.le_refl, Nat.zero_add, Nat.reduceAdd, Nat.reduceSub, Nat.reduceLeDiff, Nat.reduceEqDiff, if_true, if_false, Bool.false_eq_true, reduceIte, List.nodup_nil, List.nodup_cons, List.not_mem_nil, not_false_eq_true, and_true, true_and, List.mem_cons, or_false, or_self, forall_eq, forall_eq_or_imp,  Nat.le_add_left, Nat.zero_le, q_add, q_sub, q_neg, q_no, q_eq, q_ne, q_lt, q_le, q_gt, q_ge, q_toInt, q_abs, q_max2, q_lenL, q_lenS, q_lenT, q_ixL, q_ixT, q_ixS, q_isi_ii, q_isi_bi, q_isi_ib, q_isi_bb, q_isi_tt, q_isi_ll, q_isi_lt, q_isi_tl, q_isN_n, q_isN_t, q_isN_i, q_notN_n, q_notN_t, q_notN_i, q_eqS, q_neS, q_all, q_any, q_sum, q_tuple, q_listT, q_listL, q_idI, q_gcd, q_min2, q_isB, q_notB, Bool.not_true, Bool.not_false, Bool.not_not, at1_0, ixN1_0, at2_0, ixN2_0, at2_1, ixN2_1, at3_0, ixN3_0, at3_1, ixN3_1, at3_2, ixN3_2, at4_0, ixN4_0, at4_1, ixN4_1, at4_2, ixN4_2, at4_3, ixN4_3, at5_0, ixN5_0, at5_1, ixN5_1, at5_2, ixN5_2, at5_3, ixN5_3, at5_4, ixN5_4, at6_0, ixN6_0, at6_1, ixN6_1, at6_2, ixN6_2, at6_3, ixN6_3, at6_4, ixN6_4, at6_5, ixN6_5, ln0, ln1, ln2, ln3, ln4, ln5, ln6, ln7, ln8, ln9, ln10, ln11, ln12, ln13, ln14, ln15, ln16, ln17, ln18, ln19, ln20, ln21, ln22, ln23, ln24, nc0, nc1, nc2, nc3, nc4, nc5, nc6, nc7, nc8, nc9, nc10, nc11, nc12, nc13, nc14, nc15, nc16, false_imp_iff, implies_true, beq_self_eq_true, Int.reduceBEq, Int.reduceLT, Int.reduceLE, decide_true, decide_false, List.all_cons, List.all_nil, List.any_cons, List.any_nil, id_eq, Bool.and_true, Bool.true_and, Bool.and_false, Bool.false_and, Bool.or_true, Bool.true_or, Bool.or_false, Bool.false_or]
  have blk : ∀ (pre : List D) {n a b m : Int}, Gr n a b m → pre.length < 5000 → blockF (callAt tb (k + 1)) Fuel [.expr (.mut .append 1 [(.var 2)]), .asg (.nm 2) (.call t [false] [0] [(.var 2)])] [s0, .own pre 0, .d (grid n a b m)] =
      some (.nx [s0, .own (pre ++ [grid n a b m]) 0, .d (if 0 < (a % m * n + b % m) / m then grid ((a % m * n + b % m) / m) m ((a % m * n + b % m) % m) (a % m) else .non)]) := fun pre {n a b m} g hl => by
    have hl2 : pre.length < line := Nat.lt_trans hl (by decide)
    unfold blockF
    simp only [v_var, v_lit, v_op, v_tup, v_lst, v_and, v_or, v_ite, v_chain, v_call, v_comp, v_mut, v_met, vs_nil, vs_cons, x_asg, x_asgT, x_set, x_unp, x_par, x_aug, x_if, x_ifl, frzE_nil, frzE_cons, frzSl_un, frzSl_d, frzSl_own, x_whl, x_for, x_ret, x_retN, x_expr, x_brk, x_cont, x_pass, xs_nil, xs_cons, lockA, unlockA, evCond, rdAs, rdA, boolA, bd, frz, frzs, frzR, slA, slAs, refs, postA, keepA, keepAs, g_nm', g_tp', g_sb', gs_nil', gs_cons', isOwn, isSet, isLs, setAt, putN_eq, fr_d, fr_un, fr_own0, slT, asD, retT, n_nm, n_tp, n_tl, ns_nil, ns_cons, augF, augI, items, mutKeeps, mutF, pick, List.filterMap_cons, List.filterMap_nil, List.getElem?_cons_zero, List.getElem?_cons_succ, List.getElem?_nil, List.length_cons, List.length_nil, List.cons_append, List.nil_append, List.replicate, List.map_cons, List.map_nil, List.set_cons_zero, List.set_cons_succ, List.take_succ_cons, List.take_zero, Option.map_some, Nat.le_refl, Nat.zero_add, Nat.reduceAdd, Nat.reduceSub, Nat.reduceLeDiff, Nat.reduceEqDiff, if_true, if_false, Bool.false_eq_true, reduceIte, List.nodup_nil, List.nodup_cons, List.not_mem_nil, not_false_eq_true, and_true, true_and, List.mem_cons, or_false, or_self, forall_eq, forall_eq_or_imp,  Nat.le_add_left, Nat.zero_le, q_add, q_sub, q_neg, q_no, q_eq, q_ne, q_lt, q_le, q_gt, q_ge, q_toInt, q_abs, q_max2, q_lenL, q_lenS, q_lenT, q_ixL, q_ixT, q_ixS, q_isi_ii, q_isi_bi, q_isi_ib, q_isi_bb, q_isi_tt, q_isi_ll, q_isi_lt, q_isi_tl, q_isN_n, q_isN_t, q_isN_i, q_notN_n, q_notN_t, q_notN_i, q_eqS, q_neS, q_all, q_any, q_sum, q_tuple, q_listT, q_listL, q_idI, q_gcd, q_min2, q_isB, q_notB, Bool.not_true, Bool.not_false, Bool.not_not, at1_0, ixN1_0, at2_0, ixN2_0, at2_1, ixN2_1, at3_0, ixN3_0, at3_1, ixN3_1, at3_2, ixN3_2, at4_0, ixN4_0, at4_1, ixN4_1, at4_2, ixN4_2, at4_3, ixN4_3, at5_0, ixN5_0, at5_1, ixN5_1, at5_2, ixN5_2, at5_3, ixN5_3, at5_4, ixN5_4, at6_0, ixN6_0, at6_1, ixN6_1, at6_2, ixN6_2, at6_3, ixN6_3, at6_4, ixN6_4, at6_5, ixN6_5, ln0, ln1, ln2, ln3, ln4, ln5, ln6, ln7, ln8, ln9, ln10, ln11, ln12, ln13, ln14, ln15, ln16, ln17, ln18, ln19, ln20, ln21, ln22, ln23, ln24, nc0, nc1, nc2, nc3, nc4, nc5, nc6, nc7, nc8, nc9, nc10, nc11, nc12, nc13, nc14, nc15, nc16, false_imp_iff, implies_true, beq_self_eq_true, Int.reduceBEq, Int.reduceLT, Int.reduceLE, decide_true, decide_false, List.all_cons, List.all_nil, List.any_cons, List.any_nil, id_eq, Bool.and_true, Bool.true_and, Bool.and_false, Bool.false_and, Bool.or_true, Bool.true_or, Bool.or_false, Bool.false_or, hl2, turned_ok ht k g]
  -- the last turn
  have last : ∀ {n a b m : Int}, Gr n a b m → ¬ 0 < (a % m * n + b % m) / m → ∀ (fu : Nat), 2 ≤ fu → ∀ pre : List D, pre.length < 5000 →
      whlN (testF (callAt tb (k + 1)) (.op .notN [(.var 2)])) (blockF (callAt tb (k + 1)) Fuel [.expr (.mut .append 1 [(.var 2)]), .asg (.nm 2) (.call t [false] [0] [(.var 2)])]) fu [s0, .own pre 0, .d (grid n a b m)] = some (.nx [s0, .own (pre ++ [grid n a b m]) 0, .d .non]) := fun {n a b m} g hr fu hf pre hl => by
    obtain ⟨f, rfl⟩ : ∃ f, fu = f + 2 := ⟨fu - 2, by omega⟩
    rw [whl_true (test1 ..) (blk pre g hl), if_neg hr, whl_false (test0 ..)]
  intro j
  induction j with
  | zero =>
    intro n a b m g hj fu hf pre hp
    have r1 := Int.emod_nonneg a (show m ≠ 0 by have := g.m0; omega)
    have hz : a % m = 0 := by
      by_cases z : a % m = 0
      · exact z
      · have := Int.mul_pos g.m0 (show 0 < a % m by omega)
        omega
    have hr : ¬ 0 < (a % m * n + b % m) / m := by
      rw [hz, Int.zero_mul, Int.zero_add, Int.ediv_eq_zero_of_lt (Int.emod_nonneg b (by have := g.m0; omega)) (Int.emod_lt_of_pos b g.m0)]
      omega
    refine ⟨[(n, a, b, m)], last g hr fu (by omega) pre (by omega), fun q hq => ?_, ?_, by simp⟩
    · rw [List.mem_singleton.mp hq]; exact g
    · rw [last_ok g hr]; simp
  | succ j ih =>
    intro n a b m g hj fu hf pre hp
    by_cases hr : 0 < (a % m * n + b % m) / m
    · obtain ⟨g2, e2, p2⟩ := next_ok g hr
      obtain ⟨f, rfl⟩ : ∃ f, fu = f + 1 := ⟨fu - 1, by omega⟩
      obtain ⟨L, h1, h2, h3, h4⟩ := ih g2 (p2 j hj) f (by omega) (pre ++ [grid n a b m]) (by rw [List.length_append, List.length_singleton]; omega)
      refine ⟨(n, a, b, m) :: L, ?_, fun q hq => ?_, ?_, by simp; omega⟩
      · rw [whl_true (test1 ..) (blk pre g (by omega)), if_pos hr, h1, List.append_assoc]
        rfl
      · rcases List.mem_cons.mp hq with rfl | hq
        · exact g
        · exact h2 q hq
      · rw [List.map_cons, List.sum_cons, h3, e2]
    · refine ⟨[(n, a, b, m)], last g hr fu (by omega) pre (by omega), fun q hq => ?_, ?_, by simp⟩
      · rw [List.mem_singleton.mp hq]; exact g
      · rw [last_ok g hr]; simp
theorem fuel_ge : 5000 ≤ Fuel := by
  unfold Fuel
  exact Nat.le_trans (show 5000 ≤ 2 ^ 13 by decide) (Nat.pow_le_pow_right (by decide) (by decide))
theorem steps_ok {t s : Nat} (ht : tb[t]? = some tTurned) (hs : tb[s]? = some (tSteps t)) (k : Nat) {n a b m : Int} (g : Gr n a b m) :
    ∃ L : List (Int × Int × Int × Int), callAt tb (k + 2) s [.d (grid n a b m)] = some (.fr (L.map gD4), [.d (grid n a b m)]) ∧ (∀ q ∈ L, Gr q.1 q.2.1 q.2.2.1 q.2.2.2) ∧ (L.map psum).sum = FS a b m n.toNat ∧ L.length < 2000 := by
  have r1 := Int.emod_nonneg a (show m ≠ 0 by have := g.m0; omega)
  have r2 := Int.emod_lt_of_pos a g.m0
  have pw : m * (a % m) < 2 ^ 1000 := by
    have h1 : m * (a % m) ≤ m * m := Int.mul_le_mul_of_nonneg_left (by omega) (by omega)
    have h2 : m * m ≤ 2 ^ 500 * m := Int.mul_le_mul_of_nonneg_right (by have := g.m1; omega) (by omega)
    have h3 : (2 : Int) ^ 500 * m < 2 ^ 500 * 2 ^ 500 := Int.mul_lt_mul_of_pos_left g.m1 (by decide)
    have h4 : (2 : Int) ^ 500 * 2 ^ 500 = 2 ^ 1000 := by decide
    omega
  obtain ⟨L, h1, h2, h3, h4⟩ := steps_loop ht k (.d (grid n a b m)) 1000 g pw Fuel (by have := fuel_ge; omega) [] (by simp)
  refine ⟨L, ?_, h2, h3, by omega⟩
  rw [cS, hs, bd]
  unfold tSteps runF
  simp only [v_var, v_lit, v_op, v_tup, v_lst, v_and, v_or, v_ite, v_chain, v_call, v_comp, v_mut, v_met, vs_nil, vs_cons, x_asg, x_asgT, x_set, x_unp, x_par, x_aug, x_if, x_ifl, frzE_nil, frzE_cons, frzSl_un, frzSl_d, frzSl_own, x_whl, x_for, x_ret, x_retN, x_expr, x_brk, x_cont, x_pass, xs_nil, xs_cons, lockA, unlockA, evCond, rdAs, rdA, boolA, bd, frz, frzs, frzR, slA, slAs, refs, postA, keepA, keepAs, g_nm', g_tp', g_sb', gs_nil', gs_cons', isOwn, isSet, isLs, setAt, putN_eq, fr_d, fr_un, fr_own0, slT, asD, retT, n_nm, n_tp, n_tl, ns_nil, ns_cons, augF, augI, items, mutKeeps, mutF, pick, List.filterMap_cons, List.filterMap_nil, List.getElem?_cons_zero, List.getElem?_cons_succ, List.getElem?_nil, List.length_cons, List.length_nil, List.cons_append, List.nil_append, List.replicate, List.map_cons, List.map_nil, List.set_cons_zero, List.set_cons_succ, List.take_succ_cons, List.take_zero, Option.map_some, Nat.le_refl, Nat.zero_add, Nat.reduceAdd, Nat.reduceSub, Nat.reduceLeDiff, Nat.reduceEqDiff, if_true, if_false, Bool.false_eq_true, reduceIte, List.nodup_nil, List.nodup_cons, List.not_mem_nil, not_false_eq_true, and_true, true_and, List.mem_cons, or_false, or_self, forall_eq, forall_eq_or_imp,  Nat.le_add_left, Nat.zero_le, q_add, q_sub, q_neg, q_no, q_eq, q_ne, q_lt, q_le, q_gt, q_ge, q_toInt, q_abs, q_max2, q_lenL, q_lenS, q_lenT, q_ixL, q_ixT, q_ixS, q_isi_ii, q_isi_bi, q_isi_ib, q_isi_bb, q_isi_tt, q_isi_ll, q_isi_lt, q_isi_tl, q_isN_n, q_isN_t, q_isN_i, q_notN_n, q_notN_t, q_notN_i, q_eqS, q_neS, q_all, q_any, q_sum, q_tuple, q_listT, q_listL, q_idI, q_gcd, q_min2, q_isB, q_notB, Bool.not_true, Bool.not_false, Bool.not_not, at1_0, ixN1_0, at2_0, ixN2_0, at2_1, ixN2_1, at3_0, ixN3_0, at3_1, ixN3_1, at3_2, ixN3_2, at4_0, ixN4_0, at4_1, ixN4_1, at4_2, ixN4_2, at4_3, ixN4_3, at5_0, ixN5_0, at5_1, ixN5_1, at5_2, ixN5_2, at5_3, ixN5_3, at5_4, ixN5_4, at6_0, ixN6_0, at6_1, ixN6_1, at6_2, ixN6_2, at6_3, ixN6_3, at6_4, ixN6_4, at6_5, ixN6_5, ln0, ln1, ln2, ln3, ln4, ln5, ln6, ln7, ln8, ln9, ln10, ln11, ln12, ln13, ln14, ln15, ln16, ln17, ln18, ln19, ln20, ln21, ln22, ln23, ln24, nc0, nc1, nc2, nc3, nc4, nc5, nc6, nc7, nc8, nc9, nc10, nc11, nc12, nc13, nc14, nc15, nc16, false_imp_iff, implies_true, beq_self_eq_true, Int.reduceBEq, Int.reduceLT, Int.reduceLE, decide_true, decide_false, List.all_cons, List.all_nil, List.any_cons, List.any_nil, id_eq, Bool.and_true, Bool.true_and, Bool.and_false, Bool.false_and, Bool.or_true, Bool.true_or, Bool.or_false, Bool.false_or, h1]
theorem part_ok {p : Nat} (hp : tb[p]? = some tPart) (k : Nat) {n a b m : Int} (g : Gr n a b m) : callAt tb (k + 1) p [.d (grid n a b m)] = some (.d (.int (psum (n, a, b, m))), [.d (grid n a b m)]) := by
  obtain ⟨n0, a0, b0, m0, n1, a1, b1, m1⟩ := g
  have f1 : a.fdiv m = a / m := Int.fdiv_eq_ediv_of_nonneg _ (by omega)
  have f2 : b.fdiv m = b / m := Int.fdiv_eq_ediv_of_nonneg _ (by omega)
  have f3 : (n * (n - 1)).fdiv 2 = n * (n - 1) / 2 := Int.fdiv_eq_ediv_of_nonneg _ (by decide)
  have dv : divOk m = true := divOk_of (n := 500) (by omega) (by omega) (by decide) (by decide)
  have dv2 : divOk 2 = true := by decide
  have q1 := Int.ediv_le_self m (a := a) (by omega)
  have q1' := Int.ediv_nonneg (a := a) (b := m) (by omega) (by omega)
  have q2 := Int.ediv_le_self m (a := b) (by omega)
  have q2' := Int.ediv_nonneg (a := b) (b := m) (by omega) (by omega)
  have m1' : mulOk n (n - 1) = true := mulOk_of (m := 500) (n := 500) (by omega) (by omega) (by decide) (by decide) (by decide)
  have hb : n * (n - 1) / 2 ≤ 2 ^ 1000 ∧ -(2 ^ 1000) ≤ n * (n - 1) / 2 := by
    have h1 : n * (n - 1) ≤ n * 2 ^ 500 := Int.mul_le_mul_of_nonneg_left (by omega) n0
    have h2 : n * 2 ^ 500 ≤ 2 ^ 500 * 2 ^ 500 := Int.mul_le_mul_of_nonneg_right (by omega) (by decide)
    have h4 : (2 : Int) ^ 500 * 2 ^ 500 = 2 ^ 1000 := by decide
    have h3 : -n ≤ n * (n - 1) := by
      by_cases z : n = 0
      · subst z; decide
      · have := Int.mul_nonneg n0 (show 0 ≤ n - 1 by omega)
        omega
    omega
  have m2 : mulOk (a / m) (n * (n - 1) / 2) = true := mulOk_of (m := 500) (n := 1001) (by omega) (by omega) (by decide) (by decide) (by decide)
  have m3 : mulOk (b / m) n = true := mulOk_of (m := 500) (n := 500) (by omega) (by omega) (by decide) (by decide) (by decide)
  rw [cS, hp, bd]
  unfold tPart runF grid
  simp only [v_var, v_lit, v_op, v_tup, v_lst, v_and, v_or, v_ite, v_chain, v_call, v_comp, v_mut, v_met, vs_nil, vs_cons, x_asg, x_asgT, x_set, x_unp, x_par, x_aug, x_if, x_ifl, frzE_nil, frzE_cons, frzSl_un, frzSl_d, frzSl_own, x_whl, x_for, x_ret, x_retN, x_expr, x_brk, x_cont, x_pass, xs_nil, xs_cons, lockA, unlockA, evCond, rdAs, rdA, boolA, bd, frz, frzs, frzR, slA, slAs, refs, postA, keepA, keepAs, g_nm', g_tp', g_sb', gs_nil', gs_cons', isOwn, isSet, isLs, setAt, putN_eq, fr_d, fr_un, fr_own0, slT, asD, retT, n_nm, n_tp, n_tl, ns_nil, ns_cons, augF, augI, items, mutKeeps, mutF, pick, List.filterMap_cons, List.filterMap_nil, List.getElem?_cons_zero, List.getElem?_cons_succ, List.getElem?_nil, List.length_cons, List.length_nil, List.cons_append, List.nil_append, List.replicate, List.map_cons, List.map_nil, List.set_cons_zero, List.set_cons_succ, List.take_succ_cons, List.take_zero, Option.map_some, Nat.le_refl, Nat.zero_add, Nat.reduceAdd, Nat.reduceSub, Nat.reduceLeDiff, Nat.reduceEqDiff, if_true, if_false, Bool.false_eq_true, reduceIte, List.nodup_nil, List.nodup_cons, List.not_mem_nil, not_false_eq_true, and_true, true_and, List.mem_cons, or_false, or_self, forall_eq, forall_eq_or_imp,  Nat.le_add_left, Nat.zero_le, q_add, q_sub, q_neg, q_no, q_eq, q_ne, q_lt, q_le, q_gt, q_ge, q_toInt, q_abs, q_max2, q_lenL, q_lenS, q_lenT, q_ixL, q_ixT, q_ixS, q_isi_ii, q_isi_bi, q_isi_ib, q_isi_bb, q_isi_tt, q_isi_ll, q_isi_lt, q_isi_tl, q_isN_n, q_isN_t, q_isN_i, q_notN_n, q_notN_t, q_notN_i, q_eqS, q_neS, q_all, q_any, q_sum, q_tuple, q_listT, q_listL, q_idI, q_gcd, q_min2, q_isB, q_notB, Bool.not_true, Bool.not_false, Bool.not_not, at1_0, ixN1_0, at2_0, ixN2_0, at2_1, ixN2_1, at3_0, ixN3_0, at3_1, ixN3_1, at3_2, ixN3_2, at4_0, ixN4_0, at4_1, ixN4_1, at4_2, ixN4_2, at4_3, ixN4_3, at5_0, ixN5_0, at5_1, ixN5_1, at5_2, ixN5_2, at5_3, ixN5_3, at5_4, ixN5_4, at6_0, ixN6_0, at6_1, ixN6_1, at6_2, ixN6_2, at6_3, ixN6_3, at6_4, ixN6_4, at6_5, ixN6_5, ln0, ln1, ln2, ln3, ln4, ln5, ln6, ln7, ln8, ln9, ln10, ln11, ln12, ln13, ln14, ln15, ln16, ln17, ln18, ln19, ln20, ln21, ln22, ln23, ln24, nc0, nc1, nc2, nc3, nc4, nc5, nc6, nc7, nc8, nc9, nc10, nc11, nc12, nc13, nc14, nc15, nc16, false_imp_iff, implies_true, beq_self_eq_true, Int.reduceBEq, Int.reduceLT, Int.reduceLE, decide_true, decide_false, List.all_cons, List.all_nil, List.any_cons, List.any_nil, id_eq, Bool.and_true, Bool.true_and, Bool.and_false, Bool.false_and, Bool.or_true, Bool.true_or, Bool.or_false, Bool.false_or, q_fdiv dv, f1, f2, q_mul m1', q_fdiv dv2, f3, q_mul m2, q_mul m3]
  rfl
theorem sumGrid_ok {t s p u : Nat} (ht : tb[t]? = some tTurned) (hs : tb[s]? = some (tSteps t)) (hp : tb[p]? = some tPart) (hu : tb[u]? = some (tSumGrid p s)) (k : Nat) {n a b m : Int} (g : Gr n a b m) :
    callAt tb (k + 3) u [.d (grid n a b m)] = some (.d (.int (FS a b m n.toNat)), [.d (grid n a b m)]) := by
  obtain ⟨L, h1, h2, h3, h4⟩ := steps_ok ht hs k g
  obtain ⟨en, c1, x, c2⟩ := comp_inv (step := stepC (callAt tb (k + 2)) (.call p [false] [0] [(.var 1)]) (.nm 1) [] [1]) (fun en => ∃ x, en = [Sl.d (grid n a b m), x] ∧ ∀ xs m, x ≠ .own xs m)
    (fun d => match d with | .tup [.int n, .int a, .int b, .int m] => .int (psum (n, a, b, m)) | _ => .non) (xs := L.map gD4) (fun d hd en ⟨x, e, hx⟩ => by
      obtain ⟨q, hq, rfl⟩ := List.mem_map.mp hd
      subst e
      obtain ⟨n', a', b', m'⟩ := q
      refine ⟨[.d (grid n a b m), .d (gD4 (n', a', b', m'))], ?_, _, rfl, fun _ _ z => by cases z⟩
      have pk := part_ok hp (k + 1) (h2 _ hq)
      unfold stepC gD4
      simp only [wipeE, v_var, v_lit, v_op, v_tup, v_lst, v_and, v_or, v_ite, v_chain, v_call, v_comp, v_mut, v_met, vs_nil, vs_cons, x_asg, x_asgT, x_set, x_unp, x_par, x_aug, x_if, x_ifl, frzE_nil, frzE_cons, frzSl_un, frzSl_d, frzSl_own, x_whl, x_for, x_ret, x_retN, x_expr, x_brk, x_cont, x_pass, xs_nil, xs_cons, lockA, unlockA, evCond, rdAs, rdA, boolA, bd, frz, frzs, frzR, slA, slAs, refs, postA, keepA, keepAs, g_nm', g_tp', g_sb', gs_nil', gs_cons', isOwn, isSet, isLs, setAt, putN_eq, fr_d, fr_un, fr_own0, slT, asD, retT, n_nm, n_tp, n_tl, ns_nil, ns_cons, augF, augI, items, mutKeeps, mutF, pick, List.filterMap_cons, List.filterMap_nil, List.getElem?_cons_zero, List.getElem?_cons_succ, List.getElem?_nil, List.length_cons, List.length_nil, List.cons_append, List.nil_append, List.replicate, List.map_cons, List.map_nil, List.set_cons_zero, List.set_cons_succ, List.take_succ_cons, List.take_zero, Option.map_some, Nat.le_refl, Nat.zero_add, Nat.reduceAdd, Nat.reduceSub, Nat.reduceLeDiff, Nat.reduceEqDiff, if_true, if_false, Bool.false_eq_true, reduceIte, List.nodup_nil, List.nodup_cons, List.not_mem_nil, not_false_eq_true, and_true, true_and, List.mem_cons, or_false, or_self, forall_eq, forall_eq_or_imp,  Nat.le_add_left, Nat.zero_le, q_add, q_sub, q_neg, q_no, q_eq, q_ne, q_lt, q_le, q_gt, q_ge, q_toInt, q_abs, q_max2, q_lenL, q_lenS, q_lenT, q_ixL, q_ixT, q_ixS, q_isi_ii, q_isi_bi, q_isi_ib, q_isi_bb, q_isi_tt, q_isi_ll, q_isi_lt, q_isi_tl, q_isN_n, q_isN_t, q_isN_i, q_notN_n, q_notN_t, q_notN_i, q_eqS, q_neS, q_all, q_any, q_sum, q_tuple, q_listT, q_listL, q_idI, q_gcd, q_min2, q_isB, q_notB, Bool.not_true, Bool.not_false, Bool.not_not, at1_0, ixN1_0, at2_0, ixN2_0, at2_1, ixN2_1, at3_0, ixN3_0, at3_1, ixN3_1, at3_2, ixN3_2, at4_0, ixN4_0, at4_1, ixN4_1, at4_2, ixN4_2, at4_3, ixN4_3, at5_0, ixN5_0, at5_1, ixN5_1, at5_2, ixN5_2, at5_3, ixN5_3, at5_4, ixN5_4, at6_0, ixN6_0, at6_1, ixN6_1, at6_2, ixN6_2, at6_3, ixN6_3, at6_4, ixN6_4, at6_5, ixN6_5, ln0, ln1, ln2, ln3, ln4, ln5, ln6, ln7, ln8, ln9, ln10, ln11, ln12, ln13, ln14, ln15, ln16, ln17, ln18, ln19, ln20, ln21, ln22, ln23, ln24, nc0, nc1, nc2, nc3, nc4, nc5, nc6, nc7, nc8, nc9, nc10, nc11, nc12, nc13, nc14, nc15, nc16, false_imp_iff, implies_true, beq_self_eq_true, Int.reduceBEq, Int.reduceLT, Int.reduceLE, decide_true, decide_false, List.all_cons, List.all_nil, List.any_cons, List.any_nil, id_eq, Bool.and_true, Bool.true_and, Bool.and_false, Bool.false_and, Bool.or_true, Bool.true_or, Bool.or_false, Bool.false_or, pk]
      rfl) (en := [.d (grid n a b m), .un]) ⟨_, rfl, fun _ _ z => by cases z⟩
  obtain ⟨c2, c3⟩ := c2
  subst c2
  have e5 : (L.map gD4).map (fun d => match d with | .tup [.int n, .int a, .int b, .int m] => D.int (psum (n, a, b, m)) | _ => .non) = L.map fun q => .int (psum q) := by
    rw [List.map_map]; rfl
  rw [e5] at c1
  have e6 : (L.map gD4).length ≤ line := by
    rw [List.length_map]
    exact Nat.le_trans (Nat.le_of_lt h4) (by decide)
  have w1 : wkL .seq [.lst (L.map gD4)] = some (L.map gD4) := rfl
  rw [cS, hu, bd]
  unfold tSumGrid runF
  simp only [v_var, v_lit, v_op, v_tup, v_lst, v_and, v_or, v_ite, v_chain, v_call, v_comp, v_mut, v_met, vs_nil, vs_cons, x_asg, x_asgT, x_set, x_unp, x_par, x_aug, x_if, x_ifl, frzE_nil, frzE_cons, frzSl_un, frzSl_d, frzSl_own, x_whl, x_for, x_ret, x_retN, x_expr, x_brk, x_cont, x_pass, xs_nil, xs_cons, lockA, unlockA, evCond, rdAs, rdA, boolA, bd, frz, frzs, frzR, slA, slAs, refs, postA, keepA, keepAs, g_nm', g_tp', g_sb', gs_nil', gs_cons', isOwn, isSet, isLs, setAt, putN_eq, fr_d, fr_un, fr_own0, slT, asD, retT, n_nm, n_tp, n_tl, ns_nil, ns_cons, augF, augI, items, mutKeeps, mutF, pick, List.filterMap_cons, List.filterMap_nil, List.getElem?_cons_zero, List.getElem?_cons_succ, List.getElem?_nil, List.length_cons, List.length_nil, List.cons_append, List.nil_append, List.replicate, List.map_cons, List.map_nil, List.set_cons_zero, List.set_cons_succ, List.take_succ_cons, List.take_zero, Option.map_some, Nat.le_refl, Nat.zero_add, Nat.reduceAdd, Nat.reduceSub, Nat.reduceLeDiff, Nat.reduceEqDiff, if_true, if_false, Bool.false_eq_true, reduceIte, List.nodup_nil, List.nodup_cons, List.not_mem_nil, not_false_eq_true, and_true, true_and, List.mem_cons, or_false, or_self, forall_eq, forall_eq_or_imp,  Nat.le_add_left, Nat.zero_le, q_add, q_sub, q_neg, q_no, q_eq, q_ne, q_lt, q_le, q_gt, q_ge, q_toInt, q_abs, q_max2, q_lenL, q_lenS, q_lenT, q_ixL, q_ixT, q_ixS, q_isi_ii, q_isi_bi, q_isi_ib, q_isi_bb, q_isi_tt, q_isi_ll, q_isi_lt, q_isi_tl, q_isN_n, q_isN_t, q_isN_i, q_notN_n, q_notN_t, q_notN_i, q_eqS, q_neS, q_all, q_any, q_sum, q_tuple, q_listT, q_listL, q_idI, q_gcd, q_min2, q_isB, q_notB, Bool.not_true, Bool.not_false, Bool.not_not, at1_0, ixN1_0, at2_0, ixN2_0, at2_1, ixN2_1, at3_0, ixN3_0, at3_1, ixN3_1, at3_2, ixN3_2, at4_0, ixN4_0, at4_1, ixN4_1, at4_2, ixN4_2, at4_3, ixN4_3, at5_0, ixN5_0, at5_1, ixN5_1, at5_2, ixN5_2, at5_3, ixN5_3, at5_4, ixN5_4, at6_0, ixN6_0, at6_1, ixN6_1, at6_2, ixN6_2, at6_3, ixN6_3, at6_4, ixN6_4, at6_5, ixN6_5, ln0, ln1, ln2, ln3, ln4, ln5, ln6, ln7, ln8, ln9, ln10, ln11, ln12, ln13, ln14, ln15, ln16, ln17, ln18, ln19, ln20, ln21, ln22, ln23, ln24, nc0, nc1, nc2, nc3, nc4, nc5, nc6, nc7, nc8, nc9, nc10, nc11, nc12, nc13, nc14, nc15, nc16, false_imp_iff, implies_true, beq_self_eq_true, Int.reduceBEq, Int.reduceLT, Int.reduceLE, decide_true, decide_false, List.all_cons, List.all_nil, List.any_cons, List.any_nil, id_eq, Bool.and_true, Bool.true_and, Bool.and_false, Bool.false_and, Bool.or_true, Bool.true_or, Bool.or_false, Bool.false_or, h1, w1, e6, c1, backE, intsD_map]
  rw [h3]
theorem gridRight_ok {i c r : Nat} (hi : tb[i]? = some tIsInt) (hc : tb[c]? = some (tIsCount i)) (hr : tb[r]? = some (tGridRight c)) (k : Nat) {n a b m : Int} (g : Gr n a b m) :
    callAt tb (k + 3) r [.d (grid n a b m)] = some (.d (.bl true), [.d (grid n a b m)]) := by
  have w1 : wkL .seq [.tup [.int n, .int a, .int b, .int m]] = some [.int n, .int a, .int b, .int m] := rfl
  rw [cS, hr, bd]
  unfold tGridRight runF grid
  have cc := fun j => isCount_ok hi hc k j
  have l4 : ((4 : Int) == 4) = true := rfl
  have bs : boolsD [.bl true, .bl true, .bl true, .bl true] = some [true, true, true, true] := rfl
  simp only [v_var, v_lit, v_op, v_tup, v_lst, v_and, v_or, v_ite, v_chain, v_call, v_comp, v_mut, v_met, vs_nil, vs_cons, x_asg, x_asgT, x_set, x_unp, x_par, x_aug, x_if, x_ifl, frzE_nil, frzE_cons, frzSl_un, frzSl_d, frzSl_own, x_whl, x_for, x_ret, x_retN, x_expr, x_brk, x_cont, x_pass, xs_nil, xs_cons, lockA, unlockA, evCond, rdAs, rdA, boolA, bd, frz, frzs, frzR, slA, slAs, refs, postA, keepA, keepAs, g_nm', g_tp', g_sb', gs_nil', gs_cons', isOwn, isSet, isLs, setAt, putN_eq, fr_d, fr_un, fr_own0, slT, asD, retT, n_nm, n_tp, n_tl, ns_nil, ns_cons, augF, augI, items, mutKeeps, mutF, pick, List.filterMap_cons, List.filterMap_nil, List.getElem?_cons_zero, List.getElem?_cons_succ, List.getElem?_nil, List.length_cons, List.length_nil, List.cons_append, List.nil_append, List.replicate, List.map_cons, List.map_nil, List.set_cons_zero, List.set_cons_succ, List.take_succ_cons, List.take_zero, Option.map_some, Nat.le_refl, Nat.zero_add, Nat.reduceAdd, Nat.reduceSub, Nat.reduceLeDiff, Nat.reduceEqDiff, if_true, if_false, Bool.false_eq_true, reduceIte, List.nodup_nil, List.nodup_cons, List.not_mem_nil, not_false_eq_true, and_true, true_and, List.mem_cons, or_false, or_self, forall_eq, forall_eq_or_imp,  Nat.le_add_left, Nat.zero_le, q_add, q_sub, q_neg, q_no, q_eq, q_ne, q_lt, q_le, q_gt, q_ge, q_toInt, q_abs, q_max2, q_lenL, q_lenS, q_lenT, q_ixL, q_ixT, q_ixS, q_isi_ii, q_isi_bi, q_isi_ib, q_isi_bb, q_isi_tt, q_isi_ll, q_isi_lt, q_isi_tl, q_isN_n, q_isN_t, q_isN_i, q_notN_n, q_notN_t, q_notN_i, q_eqS, q_neS, q_all, q_any, q_sum, q_tuple, q_listT, q_listL, q_idI, q_gcd, q_min2, q_isB, q_notB, Bool.not_true, Bool.not_false, Bool.not_not, at1_0, ixN1_0, at2_0, ixN2_0, at2_1, ixN2_1, at3_0, ixN3_0, at3_1, ixN3_1, at3_2, ixN3_2, at4_0, ixN4_0, at4_1, ixN4_1, at4_2, ixN4_2, at4_3, ixN4_3, at5_0, ixN5_0, at5_1, ixN5_1, at5_2, ixN5_2, at5_3, ixN5_3, at5_4, ixN5_4, at6_0, ixN6_0, at6_1, ixN6_1, at6_2, ixN6_2, at6_3, ixN6_3, at6_4, ixN6_4, at6_5, ixN6_5, ln0, ln1, ln2, ln3, ln4, ln5, ln6, ln7, ln8, ln9, ln10, ln11, ln12, ln13, ln14, ln15, ln16, ln17, ln18, ln19, ln20, ln21, ln22, ln23, ln24, nc0, nc1, nc2, nc3, nc4, nc5, nc6, nc7, nc8, nc9, nc10, nc11, nc12, nc13, nc14, nc15, nc16, false_imp_iff, implies_true, beq_self_eq_true, Int.reduceBEq, Int.reduceLT, Int.reduceLE, decide_true, decide_false, List.all_cons, List.all_nil, List.any_cons, List.any_nil, id_eq, Bool.and_true, Bool.true_and, Bool.and_false, Bool.false_and, Bool.or_true, Bool.true_or, Bool.or_false, Bool.false_or, w1, compL, stepC, wipeE, backE, cc, decide_eq_true g.n0, decide_eq_true g.a0, decide_eq_true g.b0, decide_eq_true (Int.le_of_lt g.m0), decide_eq_true g.m0, bs]
theorem gridSum_ok {i c r h t s p u v : Nat} (hi : tb[i]? = some tIsInt) (hc : tb[c]? = some (tIsCount i)) (hr : tb[r]? = some (tGridRight c)) (hh : tb[h]? = some (tGridCheck r)) (ht : tb[t]? = some tTurned) (hs : tb[s]? = some (tSteps t)) (hp : tb[p]? = some tPart)
    (hu : tb[u]? = some (tSumGrid p s)) (hv : tb[v]? = some (tGridSum h u)) (k : Nat) {n a b m : Int} (g : Gr n a b m) : callAt tb (k + 5) v [.d (grid n a b m)] = some (.d (.int (FS a b m n.toNat)), [.d (grid n a b m)]) := by
  have e1 : callAt tb (k + 4) h [.d (grid n a b m)] = some (.d .non, [.d (grid n a b m)]) := by
    rw [cS, hh, bd]
    unfold tGridCheck runF
    simp only [v_var, v_lit, v_op, v_tup, v_lst, v_and, v_or, v_ite, v_chain, v_call, v_comp, v_mut, v_met, vs_nil, vs_cons, x_asg, x_asgT, x_set, x_unp, x_par, x_aug, x_if, x_ifl, frzE_nil, frzE_cons, frzSl_un, frzSl_d, frzSl_own, x_whl, x_for, x_ret, x_retN, x_expr, x_brk, x_cont, x_pass, xs_nil, xs_cons, lockA, unlockA, evCond, rdAs, rdA, boolA, bd, frz, frzs, frzR, slA, slAs, refs, postA, keepA, keepAs, g_nm', g_tp', g_sb', gs_nil', gs_cons', isOwn, isSet, isLs, setAt, putN_eq, fr_d, fr_un, fr_own0, slT, asD, retT, n_nm, n_tp, n_tl, ns_nil, ns_cons, augF, augI, items, mutKeeps, mutF, pick, List.filterMap_cons, List.filterMap_nil, List.getElem?_cons_zero, List.getElem?_cons_succ, List.getElem?_nil, List.length_cons, List.length_nil, List.cons_append, List.nil_append, List.replicate, List.map_cons, List.map_nil, List.set_cons_zero, List.set_cons_succ, List.take_succ_cons, List.take_zero, Option.map_some, Nat.le_refl, Nat.zero_add, Nat.reduceAdd, Nat.reduceSub, Nat.reduceLeDiff, Nat.reduceEqDiff, if_true, if_false, Bool.false_eq_true, reduceIte, List.nodup_nil, List.nodup_cons, List.not_mem_nil, not_false_eq_true, and_true, true_and, List.mem_cons, or_false, or_self, forall_eq, forall_eq_or_imp,  Nat.le_add_left, Nat.zero_le, q_add, q_sub, q_neg, q_no, q_eq, q_ne, q_lt, q_le, q_gt, q_ge, q_toInt, q_abs, q_max2, q_lenL, q_lenS, q_lenT, q_ixL, q_ixT, q_ixS, q_isi_ii, q_isi_bi, q_isi_ib, q_isi_bb, q_isi_tt, q_isi_ll, q_isi_lt, q_isi_tl, q_isN_n, q_isN_t, q_isN_i, q_notN_n, q_notN_t, q_notN_i, q_eqS, q_neS, q_all, q_any, q_sum, q_tuple, q_listT, q_listL, q_idI, q_gcd, q_min2, q_isB, q_notB, Bool.not_true, Bool.not_false, Bool.not_not, at1_0, ixN1_0, at2_0, ixN2_0, at2_1, ixN2_1, at3_0, ixN3_0, at3_1, ixN3_1, at3_2, ixN3_2, at4_0, ixN4_0, at4_1, ixN4_1, at4_2, ixN4_2, at4_3, ixN4_3, at5_0, ixN5_0, at5_1, ixN5_1, at5_2, ixN5_2, at5_3, ixN5_3, at5_4, ixN5_4, at6_0, ixN6_0, at6_1, ixN6_1, at6_2, ixN6_2, at6_3, ixN6_3, at6_4, ixN6_4, at6_5, ixN6_5, ln0, ln1, ln2, ln3, ln4, ln5, ln6, ln7, ln8, ln9, ln10, ln11, ln12, ln13, ln14, ln15, ln16, ln17, ln18, ln19, ln20, ln21, ln22, ln23, ln24, nc0, nc1, nc2, nc3, nc4, nc5, nc6, nc7, nc8, nc9, nc10, nc11, nc12, nc13, nc14, nc15, nc16, false_imp_iff, implies_true, beq_self_eq_true, Int.reduceBEq, Int.reduceLT, Int.reduceLE, decide_true, decide_false, List.all_cons, List.all_nil, List.any_cons, List.any_nil, id_eq, Bool.and_true, Bool.true_and, Bool.and_false, Bool.false_and, Bool.or_true, Bool.true_or, Bool.or_false, Bool.false_or, gridRight_ok hi hc hr k g]
  rw [cS, hv, bd]
  unfold tGridSum runF
  simp only [v_var, v_lit, v_op, v_tup, v_lst, v_and, v_or, v_ite, v_chain, v_call, v_comp, v_mut, v_met, vs_nil, vs_cons, x_asg, x_asgT, x_set, x_unp, x_par, x_aug, x_if, x_ifl, frzE_nil, frzE_cons, frzSl_un, frzSl_d, frzSl_own, x_whl, x_for, x_ret, x_retN, x_expr, x_brk, x_cont, x_pass, xs_nil, xs_cons, lockA, unlockA, evCond, rdAs, rdA, boolA, bd, frz, frzs, frzR, slA, slAs, refs, postA, keepA, keepAs, g_nm', g_tp', g_sb', gs_nil', gs_cons', isOwn, isSet, isLs, setAt, putN_eq, fr_d, fr_un, fr_own0, slT, asD, retT, n_nm, n_tp, n_tl, ns_nil, ns_cons, augF, augI, items, mutKeeps, mutF, pick, List.filterMap_cons, List.filterMap_nil, List.getElem?_cons_zero, List.getElem?_cons_succ, List.getElem?_nil, List.length_cons, List.length_nil, List.cons_append, List.nil_append, List.replicate, List.map_cons, List.map_nil, List.set_cons_zero, List.set_cons_succ, List.take_succ_cons, List.take_zero, Option.map_some, Nat.le_refl, Nat.zero_add, Nat.reduceAdd, Nat.reduceSub, Nat.reduceLeDiff, Nat.reduceEqDiff, if_true, if_false, Bool.false_eq_true, reduceIte, List.nodup_nil, List.nodup_cons, List.not_mem_nil, not_false_eq_true, and_true, true_and, List.mem_cons, or_false, or_self, forall_eq, forall_eq_or_imp,  Nat.le_add_left, Nat.zero_le, q_add, q_sub, q_neg, q_no, q_eq, q_ne, q_lt, q_le, q_gt, q_ge, q_toInt, q_abs, q_max2, q_lenL, q_lenS, q_lenT, q_ixL, q_ixT, q_ixS, q_isi_ii, q_isi_bi, q_isi_ib, q_isi_bb, q_isi_tt, q_isi_ll, q_isi_lt, q_isi_tl, q_isN_n, q_isN_t, q_isN_i, q_notN_n, q_notN_t, q_notN_i, q_eqS, q_neS, q_all, q_any, q_sum, q_tuple, q_listT, q_listL, q_idI, q_gcd, q_min2, q_isB, q_notB, Bool.not_true, Bool.not_false, Bool.not_not, at1_0, ixN1_0, at2_0, ixN2_0, at2_1, ixN2_1, at3_0, ixN3_0, at3_1, ixN3_1, at3_2, ixN3_2, at4_0, ixN4_0, at4_1, ixN4_1, at4_2, ixN4_2, at4_3, ixN4_3, at5_0, ixN5_0, at5_1, ixN5_1, at5_2, ixN5_2, at5_3, ixN5_3, at5_4, ixN5_4, at6_0, ixN6_0, at6_1, ixN6_1, at6_2, ixN6_2, at6_3, ixN6_3, at6_4, ixN6_4, at6_5, ixN6_5, ln0, ln1, ln2, ln3, ln4, ln5, ln6, ln7, ln8, ln9, ln10, ln11, ln12, ln13, ln14, ln15, ln16, ln17, ln18, ln19, ln20, ln21, ln22, ln23, ln24, nc0, nc1, nc2, nc3, nc4, nc5, nc6, nc7, nc8, nc9, nc10, nc11, nc12, nc13, nc14, nc15, nc16, false_imp_iff, implies_true, beq_self_eq_true, Int.reduceBEq, Int.reduceLT, Int.reduceLE, decide_true, decide_false, List.all_cons, List.all_nil, List.any_cons, List.any_nil, id_eq, Bool.and_true, Bool.true_and, Bool.and_false, Bool.false_and, Bool.or_true, Bool.true_or, Bool.or_false, Bool.false_or, e1, sumGrid_ok ht hs hp hu (k + 1) g]
end Ev

set_option maxHeartbeats 40000000
/-! Ev, part N: more single steps. -/
namespace Ev
open PySem
theorem xs_step {C : Sem0} {fuel : Nat} {s : S} {ss : List S} {env env' : En} (h : exS C fuel s env = some (.nx env')) : exB C fuel (s :: ss) env = exB C fuel ss env' := by
  rw [xs_cons, h]; rfl
theorem xs_ret {C : Sem0} {fuel : Nat} {s : S} {ss : List S} {env env' : En} {t : T} (h : exS C fuel s env = some (.rt t env')) : exB C fuel (s :: ss) env = some (.rt t env') := by
  rw [xs_cons, h]; rfl
theorem runF_ret {C : Sem0} {fi : Fi} {args : List Sl} {t : T} {env : En} (h1 : args.length = fi.np) (h : exB C Fuel fi.body (args ++ List.replicate (fi.ns - fi.np) .un) = some (.rt t env)) : runF C Fuel fi args = some (t, env.take fi.np) := by
  unfold runF
  rw [if_pos h1, h]; rfl
theorem call_ret {tb : List Fi} {f k : Nat} {fi : Fi} {args outs : List Sl} {t : T} {env env0 : En} (h0 : tb[f]? = some fi) (h1 : args.length = fi.np) (h2 : args ++ List.replicate (fi.ns - fi.np) .un = env0) (h3 : env.take fi.np = outs) (h : exB (callAt tb k) Fuel fi.body env0 = some (.rt t env)) : callAt tb (k + 1) f args = some (t, outs) := by
  subst h2 h3
  rw [cS, h0, bd]
  exact runF_ret h1 h
theorem q_eqTT {xs ys : List D} (h : (sh 60 (.tup xs) && sh 60 (.tup ys)) = true) : opF .eq [.tup xs, .tup ys] = some (.d (.bl (eqDs xs ys))) := if_pos h
theorem q_subB (a b : Bool) : opF .sub [.bl a, .bl b] = some (.d (.int ((if a = true then 1 else 0) - (if b = true then 1 else 0)))) := rfl
theorem q_neB (a b : Bool) : opF .ne [.bl a, .bl b] = some (.d (.bl (!(a == b)))) := rfl
theorem q_eqN : opF .eq [.non, .non] = some (.d (.bl true)) := rfl
theorem q_neLn : opF .ne [.lst [], .lst []] = some (.d (.bl false)) := rfl
theorem shs_ints : ∀ {xs : List D} {n : Nat}, (∀ x ∈ xs, ∃ i : Int, x = .int i) → shs n xs = true
  | [], n, _ => by unfold shs; rfl
  | x :: xs, n, h => by
    obtain ⟨i, rfl⟩ := h x (List.mem_cons_self ..)
    have := shs_ints (n := n) (fun y hy => h y (List.mem_cons_of_mem _ hy))
    unfold shs
    rw [this, Bool.and_true]
    cases n <;> rfl
theorem q_neLc {x : D} {xs : List D} (h : ∀ y ∈ x :: xs, ∃ i : Int, y = .int i) : opF .ne [.lst (x :: xs), .lst []] = some (.d (.bl true)) := by
  have h1 : sh 60 (.lst (x :: xs)) = true := by
    show shs 59 (x :: xs) = true
    exact shs_ints h
  have h2 : (sh 60 (.lst (x :: xs)) && sh 60 (.lst [])) = true := by rw [h1]; rfl
  exact if_pos h2
/-- a comprehension with an if, whose turns keep I -/
theorem comp_filt {step : D → En → Option (Option D × En)} (I : En → Prop) (p : D → Bool) (f : D → D) : ∀ {xs : List D}, (∀ x ∈ xs, ∀ en, I en → ∃ en', step x en = some (if p x = true then some (f x) else none, en') ∧ I en') → ∀ {en : En}, I en → ∃ en', compL step xs en = some ((xs.filter p).map f, en') ∧ I en'
  | [], _, en, h => ⟨en, rfl, h⟩
  | x :: xs, hb, en, h => by
    obtain ⟨e1, h1, h2⟩ := hb x (List.mem_cons_self ..) en h
    obtain ⟨e2, h3, h4⟩ := comp_filt I p f (fun y hy => hb y (List.mem_cons_of_mem _ hy)) h2
    refine ⟨e2, ?_, h4⟩
    rw [compL, h1]
    cases hp : p x
    · simp only [Option.bind_some, h3, List.filter_cons, hp]; rfl
    · simp only [Option.bind_some, h3, List.filter_cons, hp]; rfl
theorem filt_one {xs : List D} {p : D → Bool} {v : D} (h1 : v ∈ xs) (h2 : p v = true) (h3 : ∀ y ∈ xs, p y = true → y = v) : ∃ r, xs.filter p = v :: r := by
  have hm : v ∈ xs.filter p := List.mem_filter.mpr ⟨h1, h2⟩
  cases e : xs.filter p with
  | nil => rw [e] at hm; cases hm
  | cons a r =>
    have : a ∈ xs.filter p := by rw [e]; exact List.mem_cons_self ..
    obtain ⟨a1, a2⟩ := List.mem_filter.mp this
    exact ⟨r, by rw [h3 a a1 a2]⟩
theorem filt_nil {xs : List D} {p : D → Bool} (h3 : ∀ y ∈ xs, p y = false) : xs.filter p = [] := by
  apply List.filter_eq_nil_iff.mpr
  intro a ha
  rw [h3 a ha]; exact Bool.false_ne_true

/-! ### texts -/
theorem wee_lst (xs : List D) : wee (.lst xs) = wees xs := rfl
theorem wee_tup (xs : List D) : wee (.tup xs) = wees xs := rfl
theorem wee_bl (b : Bool) : wee (.bl b) = true := rfl
theorem wee_non : wee .non = true := rfl
theorem wees_nil : wees [] = true := rfl
theorem wees_cons (x : D) (xs : List D) : wees (x :: xs) = (wee x && wees xs) := rfl
theorem q_rp {x : D} (h1 : sh 60 x = true) (h2 : wee x = true) (h3 : Nat.ble (wt x) 16000000 = true) : opF .repr [x] = some (.d (.str (toPy x).shown)) := q_repr (by rw [h1, h2, h3]; rfl)
theorem wi {i : Int} {n : Nat} (h : i.natAbs < 2 ^ n) (h0 : 0 < n := by decide) (h1 : n ≤ 1900 := by decide) : wee (.int i) = true := wee_int h h0 h1
end Ev

set_option maxHeartbeats 40000000
/-! Ev, part Tx: data without texts of their own are told apart by their texts. -/
namespace Ev
open PySem PyProof.Rows
namespace Tx
mutual
/-- data of None, flags, numbers, tuples, lists -/
def pl : D → Bool
  | .non => true
  | .bl _ => true
  | .int _ => true
  | .tup xs => pls xs
  | .lst xs => pls xs
  | _ => false
def pls : List D → Bool
  | [] => true
  | x :: xs => pl x && pls xs
end
/-- signs of a text -/
def sg (s : Str) : List Nat := s.cps.toList
theorem sg_app (a b : Str) : sg (a ++ b) = sg a ++ sg b := by
  show (a.cps ++ b.cps).toList = _
  rw [Array.toList_append]; rfl
theorem sg_inj {a b : Str} (h : sg a = sg b) : a = b := by
  cases a; cases b
  exact congrArg Str.mk (Array.toList_inj.mp h)
def tx (x : D) : List Nat := sg (toPy x).shown
/-- elements' texts with ", " between -/
def jl : List D → List Nat
  | [] => []
  | [x] => tx x
  | x :: y :: r => tx x ++ 44 :: 32 :: jl (y :: r)
theorem jl_cc (x y : D) (r : List D) : jl (x :: y :: r) = tx x ++ 44 :: 32 :: jl (y :: r) := by rw [jl]
theorem jl_one (x : D) : jl [x] = tx x := by rw [jl]
theorem join_jl : ∀ xs : List D, sg (Str.join ", " (PyData.shownAll (toPys xs))) = jl xs
  | [] => rfl
  | [x] => by
    rw [toPys, toPys, PyData.shownAll_cons, PyData.shownAll_nil, join_one, jl]; rfl
  | x :: y :: r => by
    have ih := join_jl (y :: r)
    rw [toPys, PyData.shownAll_cons] at ih
    rw [toPys, toPys, PyData.shownAll_cons, PyData.shownAll_cons, join_cons_cons, sg_app, sg_app, jl_cc, ih]
    have e : sg (Str.ofString ", ") = [44, 32] := by decide +kernel
    rw [e, List.append_assoc]; rfl
theorem toPys_len : ∀ xs : List D, (toPys xs).length = xs.length
  | [] => rfl
  | x :: xs => by rw [toPys, List.length_cons, List.length_cons, toPys_len xs]
theorem tx_lst (xs : List D) : tx (.lst xs) = 91 :: (jl xs ++ [93]) := by
  unfold tx
  rw [toPy, PyData.shown_list, sg_app, sg_app, join_jl]
  have e1 : sg (Str.ofString "[") = [91] := by decide +kernel
  have e2 : sg (Str.ofString "]") = [93] := by decide +kernel
  rw [e1, e2]; rfl
/-- how a tuple is closed -/
def cl (n : Nat) : List Nat := if n = 1 then [44, 41] else [41]
theorem tx_tup (xs : List D) : tx (.tup xs) = 40 :: (jl xs ++ cl xs.length) := by
  unfold tx
  rw [toPy, PyData.shown_tuple, sg_app, sg_app, join_jl, toPys_len]
  have e1 : sg (Str.ofString "(") = [40] := by decide +kernel
  rw [e1]
  have e2 : sg (Str.ofString (if (xs.length == 1) = true then ",)" else ")")) = cl xs.length := by
    unfold cl
    by_cases h : xs.length = 1
    · rw [h]; decide +kernel
    · have : (xs.length == 1) = false := by rw [beq_eq_false_iff_ne]; exact h
      rw [this, if_neg h]; decide +kernel
  rw [e2]; rfl
theorem tx_non : tx .non = [78, 111, 110, 101] := by decide +kernel
theorem tx_bl (b : Bool) : tx (.bl b) = if b = true then [84, 114, 117, 101] else [70, 97, 108, 115, 101] := by cases b <;> decide +kernel
def dgs (n : Nat) : List Nat := (Nat.toDigits 10 n).map Char.toNat
theorem tx_int (i : Int) : tx (.int i) = if i < 0 then 45 :: dgs i.natAbs else dgs i.natAbs := by
  unfold tx
  rw [toPy, PyData.shown_int]
  show (Str.ofString (toString i)).cps.toList = _
  cases i with
  | ofNat n =>
    rw [if_neg (show ¬ Int.ofNat n < 0 from Int.not_lt.mpr (Int.natCast_nonneg n))]
    exact PySem.W.KIN.signs_num n
  | negSucc n =>
    rw [if_pos (by omega), signs_ofString]
    have e : (toString (Int.negSucc n)).toList = '-' :: (Nat.repr (n + 1)).toList := by
      show ("-" ++ Nat.repr (n + 1)).toList = _
      rw [String.toList_append]; rfl
    rw [e, Nat.toList_repr]; rfl
theorem dgs_dig (n : Nat) : ∀ c ∈ dgs n, 48 ≤ c ∧ c ≤ 57 := by
  intro c hc
  obtain ⟨ch, hch, rfl⟩ := List.mem_map.mp hc
  have h := Nat.isDigit_of_mem_toDigits (by decide) (by decide) hch
  simp [Char.isDigit] at h
  obtain ⟨h1, h2⟩ := h
  exact ⟨UInt32.le_iff_toNat_le.mp h1, UInt32.le_iff_toNat_le.mp h2⟩
theorem dgs_inj {m n : Nat} (h : dgs m = dgs n) : m = n := by
  have a := PySem.W.KIN.val_back m
  have b := PySem.W.KIN.val_back n
  unfold dgs at h
  rw [h] at a
  exact a.symm.trans b
theorem dgs_ne (n : Nat) : dgs n ≠ [] := by
  intro e
  have h := List.map_eq_nil_iff.mp e
  have := Nat.toDigits_ne_nil (n := n) (b := 10)
  exact this h
theorem tx_int_sg (i : Int) : ∀ c ∈ tx (.int i), c = 45 ∨ (48 ≤ c ∧ c ≤ 57) := by
  intro c hc
  rw [tx_int] at hc
  split at hc
  · rcases List.mem_cons.mp hc with h | h
    · exact .inl h
    · exact .inr (dgs_dig _ c h)
  · exact .inr (dgs_dig _ c hc)
theorem tx_int_inj {i j : Int} (h : tx (.int i) = tx (.int j)) : i = j := by
  rw [tx_int, tx_int] at h
  split at h
  · split at h
    · have := dgs_inj (List.cons.inj h).2; omega
    · exfalso
      have h45 : 45 ∈ dgs j.natAbs := by rw [← h]; exact List.mem_cons_self ..
      have := dgs_dig _ _ h45; omega
  · split at h
    · exfalso
      have h45 : 45 ∈ dgs i.natAbs := by rw [h]; exact List.mem_cons_self ..
      have := dgs_dig _ _ h45; omega
    · have := dgs_inj h; omega
/-- what may stand behind a text -/
def ok : List Nat → Prop
  | [] => True
  | c :: _ => c = 44 ∨ c = 93 ∨ c = 41
theorem pre_eq : ∀ {a b s t : List Nat}, (∀ c ∈ a, c = 45 ∨ (48 ≤ c ∧ c ≤ 57)) → (∀ c ∈ b, c = 45 ∨ (48 ≤ c ∧ c ≤ 57)) → ok s → ok t → a ++ s = b ++ t → a = b ∧ s = t
  | [], [], s, t, _, _, _, _, h => ⟨rfl, h⟩
  | [], y :: b, s, t, _, hb, hs, _, h => by
    exfalso
    rw [List.nil_append, List.cons_append] at h
    subst h
    have h1 := hb y (List.mem_cons_self ..)
    unfold ok at hs
    omega
  | x :: a, [], s, t, ha, _, _, ht, h => by
    exfalso
    rw [List.nil_append, List.cons_append] at h
    subst h
    have h1 := ha x (List.mem_cons_self ..)
    unfold ok at ht
    omega
  | x :: a, y :: b, s, t, ha, hb, hs, ht, h => by
    rw [List.cons_append, List.cons_append] at h
    obtain ⟨h1, h2⟩ := List.cons.inj h
    obtain ⟨h3, h4⟩ := pre_eq (fun c hc => ha c (List.mem_cons_of_mem _ hc)) (fun c hc => hb c (List.mem_cons_of_mem _ hc)) hs ht h2
    exact ⟨by rw [h1, h3], h4⟩
/-- the first sign of a text -/
theorem hd_ok : ∀ x : D, pl x = true → ∃ c r, tx x = c :: r ∧ (c = 78 ∧ x = .non ∨ c = 84 ∧ x = .bl true ∨ c = 70 ∧ x = .bl false ∨ (c = 45 ∨ 48 ≤ c ∧ c ≤ 57) ∧ (∃ i, x = .int i) ∨ c = 40 ∧ (∃ xs, x = .tup xs) ∨ c = 91 ∧ ∃ xs, x = .lst xs)
  | .non, _ => ⟨_, _, tx_non, by simp⟩
  | .bl true, _ => ⟨_, _, tx_bl true, by simp⟩
  | .bl false, _ => ⟨_, _, tx_bl false, by simp⟩
  | .int i, _ => by
    have h := tx_int_sg i
    cases e : tx (.int i) with
    | nil =>
      exfalso
      rw [tx_int] at e
      split at e
      · cases e
      · exact dgs_ne _ e
    | cons c r =>
      have := h c (by rw [e]; exact List.mem_cons_self ..)
      exact ⟨c, r, rfl, by simp [this]⟩
  | .tup xs, _ => ⟨_, _, tx_tup xs, by simp⟩
  | .lst xs, _ => ⟨_, _, tx_lst xs, by simp⟩
  | .str _, h => by cases h
  | .fn _, h => by cases h
  | .scr _, h => by cases h
/-- what may stand behind elements -/
def okE : List Nat → Prop
  | [] => False
  | c :: r => c = 93 ∨ c = 41 ∨ (c = 44 ∧ ∃ r', r = 41 :: r')
theorem ok93 (s : List Nat) : okE ([93] ++ s) := by
  show okE (93 :: s)
  exact Or.inl rfl
theorem okE_ok {a : List Nat} (h : okE a) : ok a := by
  cases a with
  | nil => trivial
  | cons c r => unfold okE at h; unfold ok; omega
theorem pl_tup {xs : List D} (h : pl (.tup xs) = true) : pls xs = true := h
theorem pl_lst {xs : List D} (h : pl (.lst xs) = true) : pls xs = true := h
theorem pls_c {x : D} {xs : List D} (h : pls (x :: xs) = true) : pl x = true ∧ pls xs = true := by
  unfold pls at h
  exact Bool.and_eq_true_iff.mp h
theorem okE_cl (n : Nat) (s : List Nat) : okE (cl n ++ s) := by
  unfold cl
  split
  · exact .inr (.inr ⟨rfl, s, rfl⟩)
  · exact .inr (.inl rfl)
mutual
theorem sep : ∀ (x y : D) (s t : List Nat), pl x = true → pl y = true → ok s → ok t → tx x ++ s = tx y ++ t → x = y ∧ s = t
  | .non, y, s, t, hx, hy, hs, ht, h => by
    obtain ⟨c, r, e, k⟩ := hd_ok y hy
    rw [e, tx_non] at h
    obtain ⟨h1, h2⟩ := List.cons.inj h
    rcases k with ⟨k, rfl⟩ | ⟨k, rfl⟩ | ⟨k, rfl⟩ | ⟨k, i, rfl⟩ | ⟨k, _, rfl⟩ | ⟨k, _, rfl⟩ <;> first | omega | skip
    rw [tx_non] at e
    obtain ⟨_, rfl⟩ := List.cons.inj e
    exact ⟨rfl, List.append_cancel_left h2⟩
  | .bl true, y, s, t, hx, hy, hs, ht, h => by
    obtain ⟨c, r, e, k⟩ := hd_ok y hy
    rw [e, tx_bl, if_pos rfl] at h
    obtain ⟨h1, h2⟩ := List.cons.inj h
    rcases k with ⟨k, rfl⟩ | ⟨k, rfl⟩ | ⟨k, rfl⟩ | ⟨k, i, rfl⟩ | ⟨k, _, rfl⟩ | ⟨k, _, rfl⟩ <;> first | omega | skip
    rw [tx_bl, if_pos rfl] at e
    obtain ⟨_, rfl⟩ := List.cons.inj e
    exact ⟨rfl, List.append_cancel_left h2⟩
  | .bl false, y, s, t, hx, hy, hs, ht, h => by
    obtain ⟨c, r, e, k⟩ := hd_ok y hy
    rw [e, tx_bl, if_neg (by decide)] at h
    obtain ⟨h1, h2⟩ := List.cons.inj h
    rcases k with ⟨k, rfl⟩ | ⟨k, rfl⟩ | ⟨k, rfl⟩ | ⟨k, i, rfl⟩ | ⟨k, _, rfl⟩ | ⟨k, _, rfl⟩ <;> first | omega | skip
    rw [tx_bl, if_neg (by decide)] at e
    obtain ⟨_, rfl⟩ := List.cons.inj e
    exact ⟨rfl, List.append_cancel_left h2⟩
  | .int i, y, s, t, hx, hy, hs, ht, h => by
    obtain ⟨c', r', e', k'⟩ := hd_ok (.int i) hx
    obtain ⟨c, r, e, k⟩ := hd_ok y hy
    have k2 : c' = 45 ∨ (48 ≤ c' ∧ c' ≤ 57) := tx_int_sg i c' (by rw [e']; exact List.mem_cons_self ..)
    have h0 := h
    rw [e, e'] at h
    obtain ⟨h1, h2⟩ := List.cons.inj h
    rcases k with ⟨k, rfl⟩ | ⟨k, rfl⟩ | ⟨k, rfl⟩ | ⟨k, j, rfl⟩ | ⟨k, _, rfl⟩ | ⟨k, _, rfl⟩ <;> first | omega | skip
    obtain ⟨h3, h4⟩ := pre_eq (tx_int_sg i) (tx_int_sg j) hs ht h0
    exact ⟨by rw [tx_int_inj h3], h4⟩
  | .tup xs, y, s, t, hx, hy, hs, ht, h => by
    obtain ⟨c, r, e, k⟩ := hd_ok y hy
    have h0 := h
    rw [e, tx_tup] at h
    obtain ⟨h1, h2⟩ := List.cons.inj h
    rcases k with ⟨k, rfl⟩ | ⟨k, rfl⟩ | ⟨k, rfl⟩ | ⟨k, i, rfl⟩ | ⟨k, ys, rfl⟩ | ⟨k, _, rfl⟩ <;> first | omega | skip
    rw [tx_tup, tx_tup, List.cons_append, List.cons_append, List.append_assoc, List.append_assoc] at h0
    obtain ⟨_, h3⟩ := List.cons.inj h0
    obtain ⟨rfl, h4⟩ := seps xs ys _ _ (pl_tup hx) (pl_tup hy) (okE_cl _ s) (okE_cl _ t) h3
    exact ⟨rfl, List.append_cancel_left h4⟩
  | .lst xs, y, s, t, hx, hy, hs, ht, h => by
    obtain ⟨c, r, e, k⟩ := hd_ok y hy
    have h0 := h
    rw [e, tx_lst] at h
    obtain ⟨h1, h2⟩ := List.cons.inj h
    rcases k with ⟨k, rfl⟩ | ⟨k, rfl⟩ | ⟨k, rfl⟩ | ⟨k, i, rfl⟩ | ⟨k, _, rfl⟩ | ⟨k, ys, rfl⟩ <;> first | omega | skip
    rw [tx_lst, tx_lst, List.cons_append, List.cons_append, List.append_assoc, List.append_assoc] at h0
    obtain ⟨_, h3⟩ := List.cons.inj h0
    obtain ⟨rfl, h4⟩ := seps xs ys ([93] ++ s) ([93] ++ t) (pl_lst hx) (pl_lst hy) (ok93 s) (ok93 t) h3
    exact ⟨rfl, List.append_cancel_left h4⟩
  | .str _, _, _, _, h, _, _, _, _ => by cases h
  | .fn _, _, _, _, h, _, _, _, _ => by cases h
  | .scr _, _, _, _, h, _, _, _, _ => by cases h
theorem seps : ∀ (xs ys : List D) (a b : List Nat), pls xs = true → pls ys = true → okE a → okE b → jl xs ++ a = jl ys ++ b → xs = ys ∧ a = b
  | [], [], a, b, _, _, _, _, h => ⟨rfl, h⟩
  | [], y :: ys, a, b, _, hy, ha, _, h => by
    exfalso
    obtain ⟨c, r, e, k⟩ := hd_ok y (pls_c hy).1
    have e2 : ∃ r', jl (y :: ys) ++ b = c :: r' := by
      cases ys with
      | nil => rw [jl_one, e]; exact ⟨_, rfl⟩
      | cons z zs => rw [jl_cc, e]; exact ⟨_, rfl⟩
    obtain ⟨r', e2⟩ := e2
    rw [e2] at h
    have h' : a = c :: r' := h
    subst h'
    unfold okE at ha
    rcases k with ⟨k, rfl⟩ | ⟨k, rfl⟩ | ⟨k, rfl⟩ | ⟨k, i, rfl⟩ | ⟨k, _, rfl⟩ | ⟨k, _, rfl⟩ <;> omega
  | x :: xs, [], a, b, hx, _, _, hb, h => by
    exfalso
    obtain ⟨c, r, e, k⟩ := hd_ok x (pls_c hx).1
    have e2 : ∃ r', jl (x :: xs) ++ a = c :: r' := by
      cases xs with
      | nil => rw [jl_one, e]; exact ⟨_, rfl⟩
      | cons z zs => rw [jl_cc, e]; exact ⟨_, rfl⟩
    obtain ⟨r', e2⟩ := e2
    rw [e2] at h
    have h' : c :: r' = b := h
    subst h'
    unfold okE at hb
    rcases k with ⟨k, rfl⟩ | ⟨k, rfl⟩ | ⟨k, rfl⟩ | ⟨k, i, rfl⟩ | ⟨k, _, rfl⟩ | ⟨k, _, rfl⟩ <;> omega
  | [x], [y], a, b, hx, hy, ha, hb, h => by
    rw [jl_one, jl_one] at h
    obtain ⟨rfl, h2⟩ := sep x y a b (pls_c hx).1 (pls_c hy).1 (okE_ok ha) (okE_ok hb) h
    exact ⟨rfl, h2⟩
  | [x], y :: z :: ys, a, b, hx, hy, ha, hb, h => by
    exfalso
    rw [jl_one, jl_cc, List.append_assoc] at h
    obtain ⟨_, h2⟩ := sep x y a (44 :: 32 :: jl (z :: ys) ++ b) (pls_c hx).1 (pls_c hy).1 (okE_ok ha) (Or.inl rfl) h
    subst h2
    rcases ha with h | h | ⟨_, r', h⟩
    · cases h
    · cases h
    · cases h
  | x :: z :: xs, [y], a, b, hx, hy, ha, hb, h => by
    exfalso
    rw [jl_one, jl_cc, List.append_assoc] at h
    obtain ⟨_, h2⟩ := sep x y (44 :: 32 :: jl (z :: xs) ++ a) b (pls_c hx).1 (pls_c hy).1 (Or.inl rfl) (okE_ok hb) h
    subst h2
    rcases hb with h | h | ⟨_, r', h⟩
    · cases h
    · cases h
    · cases h
  | x :: x' :: xs, y :: y' :: ys, a, b, hx, hy, ha, hb, h => by
    rw [jl_cc, jl_cc, List.append_assoc, List.append_assoc] at h
    obtain ⟨rfl, h2⟩ := sep x y (44 :: 32 :: jl (x' :: xs) ++ a) (44 :: 32 :: jl (y' :: ys) ++ b) (pls_c hx).1 (pls_c hy).1 (Or.inl rfl) (Or.inl rfl) h
    have h3 : jl (x' :: xs) ++ a = jl (y' :: ys) ++ b := (List.cons.inj (List.cons.inj h2).2).2
    obtain ⟨h4, h5⟩ := seps (x' :: xs) (y' :: ys) a b (pls_c hx).2 (pls_c hy).2 ha hb h3
    exact ⟨by rw [h4], h5⟩
end
theorem shown_inj {x y : D} (hx : pl x = true) (hy : pl y = true) (h : (toPy x).shown = (toPy y).shown) : x = y :=
  (sep x y [] [] hx hy trivial trivial (by unfold tx; rw [h])).1
mutual
theorem tx_lt : ∀ x : D, pl x = true → ∀ c ∈ tx x, c < 1114112
  | .non, _, c, h => by rw [tx_non] at h; simp at h; omega
  | .bl b, _, c, h => by
    rw [tx_bl] at h
    cases b <;> simp at h <;> omega
  | .int i, _, c, h => by have := tx_int_sg i c h; omega
  | .tup xs, hx, c, h => by
    rw [tx_tup] at h
    rcases List.mem_cons.mp h with h | h
    · omega
    · rcases List.mem_append.mp h with h | h
      · exact jl_lt xs (pl_tup hx) c h
      · unfold cl at h
        split at h <;> simp at h <;> omega
  | .lst xs, hx, c, h => by
    rw [tx_lst] at h
    rcases List.mem_cons.mp h with h | h
    · omega
    · rcases List.mem_append.mp h with h | h
      · exact jl_lt xs (pl_lst hx) c h
      · simp at h; omega
  | .str _, h, _, _ => by cases h
  | .fn _, h, _, _ => by cases h
  | .scr _, h, _, _ => by cases h
theorem jl_lt : ∀ xs : List D, pls xs = true → ∀ c ∈ jl xs, c < 1114112
  | [], _, c, h => by cases h
  | [x], hx, c, h => by
    rw [jl_one] at h
    exact tx_lt x (pls_c hx).1 c h
  | x :: y :: r, hx, c, h => by
    rw [jl_cc] at h
    rcases List.mem_append.mp h with h | h
    · exact tx_lt x (pls_c hx).1 c h
    · rcases List.mem_cons.mp h with h | h
      · omega
      · rcases List.mem_cons.mp h with h | h
        · omega
        · exact jl_lt (y :: r) (pls_c hx).2 c h
end
theorem sh_tx {x : D} (hx : pl x = true) (n : Nat) : sh n (.str (toPy x).shown) = true := by
  have e : sh n (.str (toPy x).shown) = (toPy x).shown.cps.all (· < 0x110000) := by cases n <;> rfl
  rw [e, ← Array.all_toList, List.all_eq_true]
  intro c hc
  exact decide_eq_true (tx_lt x hx c hc)
end Tx
end Ev

set_option maxHeartbeats 40000000
/-! Ev, part Q: single steps whose conditions are bounds; omega finds them. -/
namespace Ev
open PySem
theorem q_mulB {a b : Int} (h1 : a.natAbs < 2 ^ 250) (h2 : b.natAbs < 2 ^ 250) : opF .mul [.int a, .int b] = some (.d (.int (a * b))) := q_mul (mulOk_of h1 h2 (by decide) (by decide) (by decide))
theorem q_divP {a b : Int} (h0 : 0 < b) (h1 : b < 2 ^ 250) : opF .fdiv [.int a, .int b] = some (.d (.int (a / b))) := by
  have := q_fdiv (a := a) (divOk_of (b := b) (n := 250) (by omega) (by omega) (by decide) (by decide))
  rwa [Int.fdiv_eq_ediv_of_nonneg _ (by omega)] at this
theorem q_modP {a b : Int} (h0 : 0 < b) : opF .mod [.int a, .int b] = some (.d (.int (a % b))) := by
  have := q_mod (a := a) (b := b) (by rw [bne_iff_ne]; omega)
  rwa [Int.fmod_eq_emod_of_nonneg _ (by omega)] at this
theorem at_m1 (xs : List D) (x : D) : atI (xs ++ [x]) (-1) = some x := by
  unfold atI ixN L2.ixN
  have h : (-1 + ((xs.length : Int) + 1)).toNat = xs.length := by omega
  have h2 : (1 : Int) ≤ (xs.length : Int) + 1 := by omega
  simp [h, h2]
theorem at_hd (x : D) (xs : List D) : atI (x :: xs) 0 = some x := atI_nat (i := 0) (by simp)
theorem for_brk {body : D → En → Option Fl} {x : D} {xs : List D} {env e1 : En} (h : body x env = some (.bk e1)) : forL body (x :: xs) env = some (.nx e1) := by
  rw [forL, h]; rfl
theorem for_nil {body : D → En → Option Fl} {env : En} : forL body [] env = some (.nx env) := rfl
theorem q_ltI {a b : Int} (h : a < b) : opF .lt [.int a, .int b] = some (.d (.bl true)) := by rw [q_lt, decide_eq_true h]
theorem q_isi_n (ts : List Ty) : opF (.isi ts) [.non] = some (.d (.bl (ts.any (isTy .non)))) := rfl
theorem q_isi_i (ts : List Ty) (i : Int) : opF (.isi ts) [.int i] = some (.d (.bl (ts.any (isTy (.int i))))) := rfl
theorem q_isi_t (ts : List Ty) (xs : List D) : opF (.isi ts) [.tup xs] = some (.d (.bl (ts.any (isTy (.tup xs))))) := rfl
theorem q_isi_l (ts : List Ty) (xs : List D) : opF (.isi ts) [.lst xs] = some (.d (.bl (ts.any (isTy (.lst xs))))) := rfl
theorem q_isi_b (ts : List Ty) (b : Bool) : opF (.isi ts) [.bl b] = some (.d (.bl (ts.any (isTy (.bl b))))) := rfl
theorem q_eqLL {xs ys : List D} (h : (sh 60 (.lst xs) && sh 60 (.lst ys)) = true) : opF .eq [.lst xs, .lst ys] = some (.d (.bl (eqDs xs ys))) := if_pos h
theorem q_neLL {xs ys : List D} (h : (sh 60 (.lst xs) && sh 60 (.lst ys)) = true) : opF .ne [.lst xs, .lst ys] = some (.d (.bl (!eqDs xs ys))) := if_pos h
theorem q_neTT {xs ys : List D} (h : (sh 60 (.tup xs) && sh 60 (.tup ys)) = true) : opF .ne [.tup xs, .tup ys] = some (.d (.bl (!eqDs xs ys))) := if_pos h
theorem wkS_l (xs : List D) : wkL .seq [.lst xs] = some xs := rfl
theorem wkS_t (xs : List D) : wkL .seq [.tup xs] = some xs := rfl
theorem rp_bb (a b : Bool) : opF .repr [.lst [.bl a, .bl b]] = some (.d (.str (toPy (.lst [.bl a, .bl b])).shown)) := q_rp (by cases a <;> cases b <;> rfl) (by cases a <;> cases b <;> rfl) (by cases a <;> cases b <;> rfl)
theorem q_slTF (xs : List D) (a : Int) : opF (.sl true false) [.lst xs, .int a] = some (.fr (cutD xs (some a) none)) := rfl
theorem q_slFT (xs : List D) (a : Int) : opF (.sl false true) [.lst xs, .int a] = some (.fr (cutD xs none (some a))) := rfl
theorem q_slTT (xs : List D) (a b : Int) : opF (.sl true true) [.lst xs, .int a, .int b] = some (.fr (cutD xs (some a) (some b))) := rfl
theorem q_slTFt (xs : List D) (a : Int) : opF (.sl true false) [.tup xs, .int a] = some (.d (.tup (cutD xs (some a) none))) := rfl
theorem q_slFTt (xs : List D) (a : Int) : opF (.sl false true) [.tup xs, .int a] = some (.d (.tup (cutD xs none (some a)))) := rfl
theorem q_slTTt (xs : List D) (a b : Int) : opF (.sl true true) [.tup xs, .int a, .int b] = some (.d (.tup (cutD xs (some a) (some b)))) := rfl
theorem q_revL (xs : List D) : opF .rev [.lst xs] = some (.fr xs.reverse) := rfl
theorem q_revT (xs : List D) : opF .rev [.tup xs] = some (.d (.tup xs.reverse)) := rfl
theorem q_tupleT (xs : List D) : opF .tuple [.tup xs] = some (.d (.tup xs)) := rfl
theorem mem_cut {xs : List D} {lo hi : Option Int} {x : D} (h : x ∈ cutD xs lo hi) : x ∈ xs := by
  unfold cutD at h
  exact List.mem_of_mem_drop (List.mem_of_mem_take h)
theorem len_cut (xs : List D) (lo hi : Option Int) : (cutD xs lo hi).length ≤ xs.length := by
  unfold cutD
  rw [List.length_take, List.length_drop]
  omega
theorem lnn {n : Nat} (h : n ≤ 1000000) : n ≤ line := Nat.le_trans h (by decide)
theorem lnn' {n : Nat} (h : n ≤ 1000000) : n < line := Nat.lt_of_le_of_lt h (by decide)
theorem range2_ok {a b : Int} (h0 : -1000000 < a) (h1 : a < 1000000) (h2 : -1000000 < b) (h3 : b < 1000000) : wkL .range [.int a, .int b] = some (rangeD a (b - a).toNat) := by
  show (if -(2 ^ 62) ≤ a ∧ a < 2 ^ 62 ∧ -(2 ^ 62) ≤ b ∧ b < 2 ^ 62 then some (rangeD a (b - a).toNat) else none) = _
  rw [if_pos ⟨by omega, by omega, by omega, by omega⟩]
theorem q_eqLn : opF .eq [.lst [], .lst []] = some (.d (.bl true)) := rfl
theorem q_eqLc {x : D} {xs : List D} (h : ∀ y ∈ x :: xs, ∃ i : Int, y = .int i) : opF .eq [.lst (x :: xs), .lst []] = some (.d (.bl false)) := by
  have h1 : sh 60 (.lst (x :: xs)) = true := by
    show shs 59 (x :: xs) = true
    exact shs_ints h
  have h2 : (sh 60 (.lst (x :: xs)) && sh 60 (.lst [])) = true := by rw [h1]; rfl
  exact if_pos h2
mutual
theorem eqD_refl : ∀ x : D, Tx.pl x = true → eqD x x = true
  | .non, _ => rfl
  | .bl b, _ => by cases b <;> rfl
  | .int i, _ => by simp [eqD]
  | .tup xs, h => by rw [eqD]; exact eqDs_refl xs h
  | .lst xs, h => by rw [eqD]; exact eqDs_refl xs h
  | .str _, h => by cases h
  | .fn _, h => by cases h
  | .scr _, h => by cases h
theorem eqDs_refl : ∀ xs : List D, Tx.pls xs = true → eqDs xs xs = true
  | [], _ => rfl
  | x :: xs, h => by
    rw [eqDs, eqD_refl x (Tx.pls_c h).1, eqDs_refl xs (Tx.pls_c h).2]; rfl
end
end Ev

set_option maxHeartbeats 40000000
/-! ratios in lowest terms, in plain Lean -/
namespace Ra
/-- in lowest terms, the bottom above 0 -/
def Red (p : Int × Int) : Prop := 0 < p.2 ∧ Int.gcd p.1 p.2 = 1
theorem dvd_of_red {p : Int × Int} (h : Red p) {x : Int} (hd : p.2 ∣ p.1 * x) : p.2 ∣ x :=
by
  have h2 := Int.dvd_gcd_mul_iff_dvd_mul.mpr hd
  rw [Int.gcd_comm, h.2] at h2
  simpa using h2
theorem dvd_antisymm {a b : Int} (ha : 0 < a) (hb : 0 < b) (h1 : a ∣ b) (h2 : b ∣ a) : a = b := by
  have := Int.le_of_dvd hb h1
  have := Int.le_of_dvd ha h2
  omega
theorem red_unique {p q : Int × Int} (hp : Red p) (hq : Red q) (h : p.1 * q.2 = q.1 * p.2) : p = q := by
  have d1 : p.2 ∣ q.2 := dvd_of_red hp ⟨q.1, by rw [h, Int.mul_comm]⟩
  have d2 : q.2 ∣ p.2 := dvd_of_red hq ⟨p.1, by rw [← h, Int.mul_comm]⟩
  have e := dvd_antisymm hp.1 hq.1 d1 d2
  have hq1 := hq.1
  rw [e] at h
  have e1 := Int.eq_of_mul_eq_mul_right (by omega) h
  exact Prod.ext e1 e
/-- a pair in lowest terms -/
def mk (a b : Int) : Int × Int := (a.fdiv ((Int.gcd a b : Nat) * (if 0 < b then 1 else -1)), b.fdiv ((Int.gcd a b : Nat) * (if 0 < b then 1 else -1)))
theorem mk_gcd {a b : Int} (hb : b ≠ 0) : ∃ k : Int, k ≠ 0 ∧ k = (Int.gcd a b : Nat) * (if 0 < b then 1 else -1) ∧ a = k * (mk a b).1 ∧ b = k * (mk a b).2 ∧ Red (mk a b) := by
  have g0 : 0 < Int.gcd a b := Int.gcd_pos_of_ne_zero_right _ hb
  obtain ⟨x, hx⟩ := Int.gcd_dvd_left a b
  obtain ⟨y, hy⟩ := Int.gcd_dvd_right a b
  unfold mk Red
  have gx : Int.gcd x y = 1 := by
    have h : Int.gcd ((Int.gcd a b : Int) * x) ((Int.gcd a b : Int) * y) = (Int.gcd a b : Int).natAbs * Int.gcd x y := Int.gcd_mul_left ..
    rw [← hx, ← hy, Int.natAbs_natCast] at h
    exact (Nat.eq_of_mul_eq_mul_left g0 (by omega : Int.gcd a b * 1 = Int.gcd a b * Int.gcd x y)).symm
  generalize Int.gcd a b = g at *
  by_cases p : 0 < b
  · refine ⟨g * 1, by omega, by rw [if_pos p], ?_⟩
    rw [if_pos p, Int.mul_one]
    have e1 : a.fdiv g = x := by rw [hx]; exact Int.mul_fdiv_cancel_left _ (by omega)
    have e2 : b.fdiv g = y := by rw [hy]; exact Int.mul_fdiv_cancel_left _ (by omega)
    rw [e1, e2]
    refine ⟨hx, hy, ?_, gx⟩
    rw [hy] at p
    exact Int.pos_of_mul_pos_right p (by omega)
  · refine ⟨g * (-1), by omega, by rw [if_neg p], ?_⟩
    rw [if_neg p]
    have e1 : a.fdiv (g * (-1)) = -x := by
      rw [show a = (g * (-1)) * (-x) by grind]; exact Int.mul_fdiv_cancel_left _ (by omega)
    have e2 : b.fdiv (g * (-1)) = -y := by
      rw [show b = (g * (-1)) * (-y) by grind]; exact Int.mul_fdiv_cancel_left _ (by omega)
    rw [e1, e2]
    refine ⟨by grind, by grind, ?_, by rw [Int.neg_gcd, Int.gcd_neg]; exact gx⟩
    rcases Int.lt_or_le y 0 with h | h
    · simp only; omega
    · have := Int.mul_nonneg (show (0 : Int) ≤ g by omega) h
      omega
theorem mk_red {a b : Int} (hb : b ≠ 0) : Red (mk a b) := by
  obtain ⟨k, h0, h1, h2, h3, h4⟩ := mk_gcd (a := a) hb
  exact h4
theorem mk_cross {a b : Int} (hb : b ≠ 0) : (mk a b).1 * b = a * (mk a b).2 := by
  obtain ⟨k, h0, h1, h2, h3, h4⟩ := mk_gcd (a := a) hb
  generalize mk a b = p at *
  rw [h2, h3]
  grind
theorem cross_cancel {x y c : Int} (h : c ≠ 0) (e : x * c = y * c) : x = y := Int.eq_of_mul_eq_mul_right h e
/-- what has the value of a pair is the pair in lowest terms -/
theorem mk_eq {a b : Int} (hb : b ≠ 0) {p : Int × Int} (hp : Red p) (h : p.1 * b = a * p.2) : mk a b = p := by
  have r := mk_red (a := a) hb
  have c := mk_cross (a := a) hb
  refine red_unique r hp (cross_cancel hb ?_)
  generalize mk a b = q at *
  have : q.1 * p.2 * b = (q.1 * b) * p.2 := by grind
  rw [this, c]
  have : p.1 * q.2 * b = (p.1 * b) * q.2 := by grind
  rw [this, h]; grind
theorem mk_congr {a b c d : Int} (hb : b ≠ 0) (hd : d ≠ 0) (h : a * d = c * b) : mk a b = mk c d := by
  refine mk_eq hb (mk_red hd) ?_
  have c1 := mk_cross (a := c) hd
  generalize mk c d = q at *
  refine cross_cancel hd ?_
  have : q.1 * b * d = (q.1 * d) * b := by grind
  rw [this, c1]
  have : a * q.2 * d = (a * d) * q.2 := by grind
  rw [this, h]; grind
theorem mk_self {p : Int × Int} (hp : Red p) : mk p.1 p.2 = p := mk_eq (by have := hp.1; omega) hp rfl
theorem mk_abs {a b : Int} (hb : b ≠ 0) : (mk a b).1.natAbs ≤ a.natAbs ∧ (mk a b).2.natAbs ≤ b.natAbs := by
  obtain ⟨k, h0, h1, h2, h3, h4⟩ := mk_gcd (a := a) hb
  have e1 := congrArg Int.natAbs h2
  have e2 := congrArg Int.natAbs h3
  rw [Int.natAbs_mul] at e1 e2
  have kk : 1 ≤ k.natAbs := by omega
  constructor
  · rw [e1]; exact Nat.le_mul_of_pos_left _ kk
  · rw [e2]; exact Nat.le_mul_of_pos_left _ kk
theorem mk_zero_iff {a b : Int} (hb : b ≠ 0) : (mk a b).1 = 0 ↔ a = 0 := by
  have c := mk_cross (a := a) hb
  have r := (mk_red (a := a) hb).1
  constructor
  · intro h; rw [h, Int.zero_mul] at c
    rcases Int.mul_eq_zero.mp c.symm with h | h
    · exact h
    · omega
  · intro h; subst h
    rw [Int.zero_mul] at c
    rcases Int.mul_eq_zero.mp c with h | h
    · exact h
    · exact absurd h hb
/-- a pair has the value n / d -/
def Val (p : Int × Int) (n d : Int) : Prop := p.1 * d = n * p.2
theorem val_mk {a b : Int} (hb : b ≠ 0) : Val (mk a b) a b := mk_cross hb
theorem val_unique {p q : Int × Int} (hp : Red p) (hq : Red q) {n d : Int} (hd : d ≠ 0) (h1 : Val p n d) (h2 : Val q n d) : p = q := by
  rw [← mk_eq hd hp h1, ← mk_eq hd hq h2]
theorem val_mul {p : Int × Int} {n d c : Int} (hc : c ≠ 0) (h : Val p (n * c) (d * c)) : Val p n d := by
  unfold Val at *
  refine cross_cancel hc ?_
  rw [Int.mul_assoc, h]; grind
def addq (p q : Int × Int) : Int × Int := mk (p.1 * q.2 + q.1 * p.2) (p.2 * q.2)
def subq (p q : Int × Int) : Int × Int := mk (p.1 * q.2 - q.1 * p.2) (p.2 * q.2)
def mulq (p q : Int × Int) : Int × Int := mk (p.1 * q.1) (p.2 * q.2)
def divq (p q : Int × Int) : Int × Int := mk (p.1 * q.2) (p.2 * q.1)
/-- whether p is below q -/
def ltq (p q : Int × Int) : Bool := decide (p.1 * q.2 < q.1 * p.2)
theorem red_ne {p : Int × Int} (h : Red p) : p.2 ≠ 0 := by have := h.1; omega
theorem red_mul {p q : Int × Int} (hp : Red p) (hq : Red q) : p.2 * q.2 ≠ 0 := Int.mul_ne_zero (red_ne hp) (red_ne hq)
theorem addq_red {p q : Int × Int} (hp : Red p) (hq : Red q) : Red (addq p q) := mk_red (red_mul hp hq)
theorem subq_red {p q : Int × Int} (hp : Red p) (hq : Red q) : Red (subq p q) := mk_red (red_mul hp hq)
theorem mulq_red {p q : Int × Int} (hp : Red p) (hq : Red q) : Red (mulq p q) := mk_red (red_mul hp hq)
theorem val_add {p q : Int × Int} (hp : Red p) (hq : Red q) {n d n' d' : Int} (h1 : Val p n d) (h2 : Val q n' d') : Val (addq p q) (n * d' + n' * d) (d * d') := by
  have c := mk_cross (a := p.1 * q.2 + q.1 * p.2) (red_mul hp hq)
  have z := red_mul hp hq
  unfold Val addq at *
  generalize mk (p.1 * q.2 + q.1 * p.2) (p.2 * q.2) = r at *
  refine cross_cancel z ?_
  have e1 : r.1 * (d * d') * (p.2 * q.2) = (r.1 * (p.2 * q.2)) * (d * d') := by grind
  have e2 : (n * d' + n' * d) * r.2 * (p.2 * q.2) = (n * p.2) * (d' * r.2 * q.2) + (n' * q.2) * (d * r.2 * p.2) := by grind
  rw [e1, c, e2, ← h1, ← h2]; grind
/-- the sum of a list, top and bottom -/
def sumND : List (Int × Int) → Int × Int → Int × Int
  | [], a => a
  | x :: xs, a => sumND xs (a.1 * x.2 + x.1 * a.2, a.2 * x.2)
theorem sumND_ne : ∀ {xs : List (Int × Int)}, (∀ x ∈ xs, Red x) → ∀ {a : Int × Int}, a.2 ≠ 0 → (sumND xs a).2 ≠ 0
  | [], _, a, h => h
  | x :: xs, hr, a, h => sumND_ne (fun y hy => hr y (List.mem_cons_of_mem _ hy)) (a := (a.1 * x.2 + x.1 * a.2, a.2 * x.2)) (Int.mul_ne_zero h (red_ne (hr x (List.mem_cons_self ..))))
theorem foldq_val : ∀ {xs : List (Int × Int)}, (∀ x ∈ xs, Red x) → ∀ {p a : Int × Int}, Red p → Val p a.1 a.2 → Red (xs.foldl addq p) ∧ Val (xs.foldl addq p) (sumND xs a).1 (sumND xs a).2
  | [], _, p, a, hp, h => ⟨hp, h⟩
  | x :: xs, hr, p, a, hp, h => by
    have hx := hr x (List.mem_cons_self ..)
    refine foldq_val (fun y hy => hr y (List.mem_cons_of_mem _ hy)) (p := addq p x) (a := (a.1 * x.2 + x.1 * a.2, a.2 * x.2)) (addq_red hp hx) ?_
    exact val_add hp hx h rfl
/-- the common bottom -/
def comq (L : Int) : List (Int × Int) → Int
  | [] => L
  | x :: xs => comq (L.fdiv (Int.gcd L x.2 : Nat) * x.2) xs
theorem com_step {L b : Int} (hL : 0 < L) (hb : 0 < b) : 0 < L.fdiv (Int.gcd L b : Nat) * b ∧ L ∣ L.fdiv (Int.gcd L b : Nat) * b ∧ b ∣ L.fdiv (Int.gcd L b : Nat) * b ∧ L.fdiv (Int.gcd L b : Nat) * b ≤ L * b := by
  have g0 : 0 < Int.gcd L b := Int.gcd_pos_of_ne_zero_right _ (by omega)
  obtain ⟨x, hx⟩ := Int.gcd_dvd_left L b
  obtain ⟨y, hy⟩ := Int.gcd_dvd_right L b
  generalize Int.gcd L b = g at *
  have e1 : L.fdiv g = x := by rw [hx]; exact Int.mul_fdiv_cancel_left _ (by omega)
  have x0 : 0 < x := by rw [hx] at hL; exact Int.pos_of_mul_pos_right hL (by omega)
  rw [e1]
  refine ⟨Int.mul_pos x0 hb, ⟨y, by rw [hx]; conv => lhs; rw [hy]
                                    grind⟩, ⟨x, Int.mul_comm _ _⟩, ?_⟩
  refine Int.mul_le_mul_of_nonneg_right ?_ (by omega)
  rw [hx]
  have : 1 * x ≤ (g : Int) * x := Int.mul_le_mul_of_nonneg_right (by omega) (by omega)
  omega
theorem com_ok : ∀ {xs : List (Int × Int)}, (∀ x ∈ xs, 0 < x.2) → ∀ {L : Int}, 0 < L → 0 < comq L xs ∧ L ∣ comq L xs ∧ ∀ x ∈ xs, x.2 ∣ comq L xs
  | [], _, L, h => ⟨h, Int.dvd_refl _, fun x hx => by cases hx⟩
  | x :: xs, hr, L, h => by
    obtain ⟨a1, a2, a3, _⟩ := com_step h (hr x (List.mem_cons_self ..))
    obtain ⟨b1, b2, b3⟩ := com_ok (fun y hy => hr y (List.mem_cons_of_mem _ hy)) a1
    refine ⟨b1, Int.dvd_trans a2 b2, fun y hy => ?_⟩
    rcases List.mem_cons.mp hy with rfl | hy
    · exact Int.dvd_trans a3 b2
    · exact b3 y hy
/-- the tops over the common bottom -/
def tops (L : Int) (xs : List (Int × Int)) : Int := (xs.map fun x => x.1 * L.fdiv x.2).sum
theorem tops_val {L : Int} : ∀ {xs : List (Int × Int)}, (∀ x ∈ xs, x.2 ≠ 0 ∧ x.2 ∣ L) → ∀ {S : Int} {a : Int × Int}, S * a.2 = a.1 * L → (S + tops L xs) * (sumND xs a).2 = (sumND xs a).1 * L
  | [], _, S, a, h => by
    show (S + 0) * a.2 = a.1 * L
    rw [Int.add_zero]; exact h
  | x :: xs, hr, S, a, h => by
    obtain ⟨z, l, hl⟩ := hr x (List.mem_cons_self ..)
    have e1 : L.fdiv x.2 = l := by rw [hl]; exact Int.mul_fdiv_cancel_left _ z
    have := tops_val (fun y hy => hr y (List.mem_cons_of_mem _ hy)) (S := S + x.1 * L.fdiv x.2) (a := (a.1 * x.2 + x.1 * a.2, a.2 * x.2)) (by
      rw [e1]
      show (S + x.1 * l) * (a.2 * x.2) = (a.1 * x.2 + x.1 * a.2) * L
      have q : (S + x.1 * l) * (a.2 * x.2) = (S * a.2) * x.2 + x.1 * a.2 * (x.2 * l) := by grind
      rw [q, h, ← hl]; grind)
    show (S + (x.1 * L.fdiv x.2 + tops L xs)) * (sumND xs _).2 = (sumND xs _).1 * L
    rw [← Int.add_assoc]; exact this
/-- the total, as it is told -/
def totq (xs : List (Int × Int)) : Int × Int := mk (tops (comq 1 xs) xs) (comq 1 xs)
theorem totq_eq {xs : List (Int × Int)} (hr : ∀ x ∈ xs, Red x) : totq xs = xs.foldl addq (0, 1) := by
  obtain ⟨c1, c2, c3⟩ := com_ok (xs := xs) (fun x hx => (hr x hx).1) (L := 1) (by decide)
  have h0 : Red (0, 1) := ⟨by decide, by decide⟩
  obtain ⟨f1, f2⟩ := foldq_val hr (p := (0, 1)) (a := (0, 1)) h0 rfl
  have ne := sumND_ne hr (a := (0, 1)) (by decide)
  have t := tops_val (L := comq 1 xs) (xs := xs) (fun x hx => ⟨red_ne (hr x hx), c3 x hx⟩) (S := 0) (a := (0, 1)) (by simp)
  rw [Int.zero_add] at t
  refine mk_eq (by omega) f1 ?_
  unfold Val at f2
  refine cross_cancel ne ?_
  generalize xs.foldl addq (0, 1) = r at *
  generalize sumND xs (0, 1) = a at *
  have e1 : r.1 * comq 1 xs * a.2 = (r.1 * a.2) * comq 1 xs := by grind
  have e2 : tops (comq 1 xs) xs * r.2 * a.2 = (tops (comq 1 xs) xs * a.2) * r.2 := by grind
  rw [e1, e2, f2, t]; grind
end Ra

set_option maxHeartbeats 40000000
/-! Ev, part R: ratios. -/
namespace Ev
open PySem Ra
/-- a ratio as a value -/
def rD (p : Int × Int) : D := .tup [.int p.1, .int p.2]
def tMade : Fi := ⟨2, 3, [
  .asg (.nm 2) (.op .mul [(.op .gcd [(.var 0), (.var 1)]), (.ite (.op .gt [(.var 1), (.lit (.int 0))]) (.lit (.int 1)) (.op .neg [(.lit (.int 1))]))]),
  .ret (.tup [(.op .fdiv [(.var 0), (.var 2)]), (.op .fdiv [(.var 1), (.var 2)])])]⟩
def tPairC (c : Nat) : Fi := ⟨2, 3, [
  .asg (.nm 2) (.op .mul [(.call c [false, false] [0, 1] [(.var 0), (.var 1)]), (.ite (.op .gt [(.var 1), (.lit (.int 0))]) (.lit (.int 1)) (.op .neg [(.lit (.int 1))]))]),
  .ret (.tup [(.op .fdiv [(.var 0), (.var 2)]), (.op .fdiv [(.var 1), (.var 2)])])]⟩
def tCom : Fi := ⟨1, 4, [
  .asg (.nm 1) (.lit (.int 1)),
  .for (.tp [(.nm 2), (.nm 3)]) .seq [(.var 0)] [.asg (.nm 1) (.op .mul [(.op .fdiv [(.var 1), (.op .gcd [(.var 1), (.var 3)])]), (.var 3)])],
  .ret (.var 1)]⟩
def tAdd (m : Nat) (b : Bool) : Fi := ⟨2, 2, [
  .ret (.call m [b, b] [0, 1] [(.op .add [(.op .mul [(.op .ix [(.var 0), (.lit (.int 0))]), (.op .ix [(.var 1), (.lit (.int 1))])]), (.op .mul [(.op .ix [(.var 1), (.lit (.int 0))]), (.op .ix [(.var 0), (.lit (.int 1))])])]), (.op .mul [(.op .ix [(.var 0), (.lit (.int 1))]), (.op .ix [(.var 1), (.lit (.int 1))])])])]⟩
def tSub (m : Nat) (b : Bool) : Fi := ⟨2, 2, [
  .ret (.call m [b, b] [0, 1] [(.op .sub [(.op .mul [(.op .ix [(.var 0), (.lit (.int 0))]), (.op .ix [(.var 1), (.lit (.int 1))])]), (.op .mul [(.op .ix [(.var 1), (.lit (.int 0))]), (.op .ix [(.var 0), (.lit (.int 1))])])]), (.op .mul [(.op .ix [(.var 0), (.lit (.int 1))]), (.op .ix [(.var 1), (.lit (.int 1))])])])]⟩
def tMul (m : Nat) (b : Bool) : Fi := ⟨2, 2, [
  .ret (.call m [b, b] [0, 1] [(.op .mul [(.op .ix [(.var 0), (.lit (.int 0))]), (.op .ix [(.var 1), (.lit (.int 0))])]), (.op .mul [(.op .ix [(.var 0), (.lit (.int 1))]), (.op .ix [(.var 1), (.lit (.int 1))])])])]⟩
def tDiv (m : Nat) (b : Bool) : Fi := ⟨2, 2, [
  .ret (.call m [b, b] [0, 1] [(.op .mul [(.op .ix [(.var 0), (.lit (.int 0))]), (.op .ix [(.var 1), (.lit (.int 1))])]), (.op .mul [(.op .ix [(.var 0), (.lit (.int 1))]), (.op .ix [(.var 1), (.lit (.int 0))])])])]⟩
def tLt : Fi := ⟨2, 2, [
  .ret (.op .lt [(.op .mul [(.op .ix [(.var 0), (.lit (.int 0))]), (.op .ix [(.var 1), (.lit (.int 1))])]), (.op .mul [(.op .ix [(.var 1), (.lit (.int 0))]), (.op .ix [(.var 0), (.lit (.int 1))])])])]⟩
def tTotal (c m : Nat) : Fi := ⟨1, 4, [
  .asg (.nm 1) (.call c [true] [0] [(.var 0)]),
  .ret (.call m [true, true] [0, 1] [(.op .sum [(.comp (.op .mul [(.var 2), (.op .fdiv [(.var 1), (.var 3)])]) (.tp [(.nm 2), (.nm 3)]) .seq [(.var 0)] [] [2, 3])]), (.var 1)])]⟩
def tLawMade : Fi := ⟨2, 6, [
  .par [(.n (.nm 4)), (.n (.nm 5))] [(.op .abs [(.var 0)]), (.op .abs [(.var 1)])],
  .for (.nm 2) .range [(.lit (.int 4000))] [.ifs (.op .eq [(.var 5), (.lit (.int 0))]) [.brk] [], .par [(.n (.nm 4)), (.n (.nm 5))] [(.var 5), (.op .mod [(.op .toInt [(.var 4)]), (.var 5)])]],
  .asg (.nm 3) (.ite (.op .gt [(.var 1), (.lit (.int 0))]) (.lit (.int 1)) (.op .neg [(.lit (.int 1))])),
  .ret (.tup [(.op .fdiv [(.op .mul [(.var 3), (.var 0)]), (.var 4)]), (.op .fdiv [(.op .mul [(.var 3), (.var 1)]), (.var 4)])])]⟩
variable {tb : List Fi}
theorem gcd_le' {a b : Int} {n : Nat} (hb : b ≠ 0) (h : b.natAbs < 2 ^ n) : 0 < (Int.gcd a b : Int) ∧ Int.gcd a b < 2 ^ n := by
  have := Int.gcd_le_natAbs_right a hb
  have := Int.gcd_pos_of_ne_zero_right a hb
  omega
/-- the divisor with the bottom's sign -/
theorem sg_ok {a b : Int} (hb : b ≠ 0) (h : b.natAbs < 2 ^ 4000) : divOk ((Int.gcd a b : Nat) * (if 0 < b then 1 else -1) : Int) = true ∧ mulOk (Int.gcd a b : Nat) (if 0 < b then 1 else -1) = true := by
  obtain ⟨g0, g1⟩ := gcd_le' (a := a) hb h
  constructor
  · refine divOk_of (n := 4000) ?_ ?_ (by decide) (by decide)
    · split <;> omega
    · split <;> omega
  · refine mulOk_of (m := 4000) (n := 2) (by omega) ?_ (by decide) (by decide) (by decide)
    split <;> decide
theorem made_ok {f : Nat} (h : tb[f]? = some tMade) (k : Nat) {a b : Int} (hb : b ≠ 0) (h1 : b.natAbs < 2 ^ 4000) : callAt tb (k + 1) f [.d (.int a), .d (.int b)] = some (.d (rD (mk a b)), [.d (.int a), .d (.int b)]) := by
  obtain ⟨s1, s2⟩ := sg_ok (a := a) hb h1
  have u : ((Nat.gcd a.natAbs b.natAbs : Nat) : Int) = (Int.gcd a b : Nat) := rfl
  rw [cS, h, bd]
  unfold tMade runF rD mk
  by_cases p : 0 < b
  · rw [if_pos p] at s1 s2
    simp only [v_var, v_lit, v_op, v_tup, v_lst, v_and, v_or, v_ite, v_chain, v_call, v_comp, v_mut, v_met, vs_nil, vs_cons, x_asg, x_asgT, x_set, x_unp, x_par, x_aug, x_if, x_ifl, frzE_nil, frzE_cons, frzSl_un, frzSl_d, frzSl_own, x_whl, x_for, x_ret, x_retN, x_expr, x_brk, x_cont, x_pass, xs_nil, xs_cons, lockA, unlockA, evCond, rdAs, rdA, boolA, bd, frz, frzs, frzR, slA, slAs, refs, postA, keepA, keepAs, g_nm', g_tp', g_sb', gs_nil', gs_cons', isOwn, isSet, isLs, setAt, putN_eq, fr_d, fr_un, fr_own0, slT, asD, retT, n_nm, n_tp, n_tl, ns_nil, ns_cons, augF, augI, items, mutKeeps, mutF, pick, List.filterMap_cons, List.filterMap_nil, List.getElem?_cons_zero, List.getElem?_cons_succ, List.getElem?_nil, List.length_cons, List.length_nil, List.cons_append, List.nil_append, List.replicate, List.map_cons, List.map_nil, List.set_cons_zero, List.set_cons_succ, List.take_succ_cons, List.take_zero, Option.map_some, Nat.le_refl, Nat.zero_add, Nat.reduceAdd, Nat.reduceSub, Nat.reduceLeDiff, Nat.reduceEqDiff, if_true, if_false, Bool.false_eq_true, reduceIte, List.nodup_nil, List.nodup_cons, List.not_mem_nil, not_false_eq_true, and_true, true_and, List.mem_cons, or_false, or_self, forall_eq, forall_eq_or_imp,  Nat.le_add_left, Nat.zero_le, q_add, q_sub, q_neg, q_no, q_eq, q_ne, q_lt, q_le, q_gt, q_ge, q_toInt, q_abs, q_max2, q_lenL, q_lenS, q_lenT, q_ixL, q_ixT, q_ixS, q_isi_ii, q_isi_bi, q_isi_ib, q_isi_bb, q_isi_tt, q_isi_ll, q_isi_lt, q_isi_tl, q_isN_n, q_isN_t, q_isN_i, q_notN_n, q_notN_t, q_notN_i, q_eqS, q_neS, q_all, q_any, q_sum, q_tuple, q_listT, q_listL, q_idI, q_gcd, q_min2, q_isB, q_notB, Bool.not_true, Bool.not_false, Bool.not_not, at1_0, ixN1_0, at2_0, ixN2_0, at2_1, ixN2_1, at3_0, ixN3_0, at3_1, ixN3_1, at3_2, ixN3_2, at4_0, ixN4_0, at4_1, ixN4_1, at4_2, ixN4_2, at4_3, ixN4_3, at5_0, ixN5_0, at5_1, ixN5_1, at5_2, ixN5_2, at5_3, ixN5_3, at5_4, ixN5_4, at6_0, ixN6_0, at6_1, ixN6_1, at6_2, ixN6_2, at6_3, ixN6_3, at6_4, ixN6_4, at6_5, ixN6_5, ln0, ln1, ln2, ln3, ln4, ln5, ln6, ln7, ln8, ln9, ln10, ln11, ln12, ln13, ln14, ln15, ln16, ln17, ln18, ln19, ln20, ln21, ln22, ln23, ln24, nc0, nc1, nc2, nc3, nc4, nc5, nc6, nc7, nc8, nc9, nc10, nc11, nc12, nc13, nc14, nc15, nc16, false_imp_iff, implies_true, beq_self_eq_true, Int.reduceBEq, Int.reduceLT, Int.reduceLE, decide_true, decide_false, List.all_cons, List.all_nil, List.any_cons, List.any_nil, id_eq, Bool.and_true, Bool.true_and, Bool.and_false, Bool.false_and, Bool.or_true, Bool.true_or, Bool.or_false, Bool.false_or, decide_eq_true p, if_pos p, u, q_mul s2, q_fdiv s1]
  · rw [if_neg p] at s1 s2
    simp only [v_var, v_lit, v_op, v_tup, v_lst, v_and, v_or, v_ite, v_chain, v_call, v_comp, v_mut, v_met, vs_nil, vs_cons, x_asg, x_asgT, x_set, x_unp, x_par, x_aug, x_if, x_ifl, frzE_nil, frzE_cons, frzSl_un, frzSl_d, frzSl_own, x_whl, x_for, x_ret, x_retN, x_expr, x_brk, x_cont, x_pass, xs_nil, xs_cons, lockA, unlockA, evCond, rdAs, rdA, boolA, bd, frz, frzs, frzR, slA, slAs, refs, postA, keepA, keepAs, g_nm', g_tp', g_sb', gs_nil', gs_cons', isOwn, isSet, isLs, setAt, putN_eq, fr_d, fr_un, fr_own0, slT, asD, retT, n_nm, n_tp, n_tl, ns_nil, ns_cons, augF, augI, items, mutKeeps, mutF, pick, List.filterMap_cons, List.filterMap_nil, List.getElem?_cons_zero, List.getElem?_cons_succ, List.getElem?_nil, List.length_cons, List.length_nil, List.cons_append, List.nil_append, List.replicate, List.map_cons, List.map_nil, List.set_cons_zero, List.set_cons_succ, List.take_succ_cons, List.take_zero, Option.map_some, Nat.le_refl, Nat.zero_add, Nat.reduceAdd, Nat.reduceSub, Nat.reduceLeDiff, Nat.reduceEqDiff, if_true, if_false, Bool.false_eq_true, reduceIte, List.nodup_nil, List.nodup_cons, List.not_mem_nil, not_false_eq_true, and_true, true_and, List.mem_cons, or_false, or_self, forall_eq, forall_eq_or_imp,  Nat.le_add_left, Nat.zero_le, q_add, q_sub, q_neg, q_no, q_eq, q_ne, q_lt, q_le, q_gt, q_ge, q_toInt, q_abs, q_max2, q_lenL, q_lenS, q_lenT, q_ixL, q_ixT, q_ixS, q_isi_ii, q_isi_bi, q_isi_ib, q_isi_bb, q_isi_tt, q_isi_ll, q_isi_lt, q_isi_tl, q_isN_n, q_isN_t, q_isN_i, q_notN_n, q_notN_t, q_notN_i, q_eqS, q_neS, q_all, q_any, q_sum, q_tuple, q_listT, q_listL, q_idI, q_gcd, q_min2, q_isB, q_notB, Bool.not_true, Bool.not_false, Bool.not_not, at1_0, ixN1_0, at2_0, ixN2_0, at2_1, ixN2_1, at3_0, ixN3_0, at3_1, ixN3_1, at3_2, ixN3_2, at4_0, ixN4_0, at4_1, ixN4_1, at4_2, ixN4_2, at4_3, ixN4_3, at5_0, ixN5_0, at5_1, ixN5_1, at5_2, ixN5_2, at5_3, ixN5_3, at5_4, ixN5_4, at6_0, ixN6_0, at6_1, ixN6_1, at6_2, ixN6_2, at6_3, ixN6_3, at6_4, ixN6_4, at6_5, ixN6_5, ln0, ln1, ln2, ln3, ln4, ln5, ln6, ln7, ln8, ln9, ln10, ln11, ln12, ln13, ln14, ln15, ln16, ln17, ln18, ln19, ln20, ln21, ln22, ln23, ln24, nc0, nc1, nc2, nc3, nc4, nc5, nc6, nc7, nc8, nc9, nc10, nc11, nc12, nc13, nc14, nc15, nc16, false_imp_iff, implies_true, beq_self_eq_true, Int.reduceBEq, Int.reduceLT, Int.reduceLE, decide_true, decide_false, List.all_cons, List.all_nil, List.any_cons, List.any_nil, id_eq, Bool.and_true, Bool.true_and, Bool.and_false, Bool.false_and, Bool.or_true, Bool.true_or, Bool.or_false, Bool.false_or, decide_eq_false p, if_neg p, u, q_mul s2, q_fdiv s1]
theorem pairC_ok {f c : Nat} (hc : tb[c]? = some tCommon) (h : tb[f]? = some (tPairC c)) (k : Nat) {a b : Int} (hb : b ≠ 0) (h1 : b.natAbs < 2 ^ 1000) : callAt tb (k + 2) f [.d (.int a), .d (.int b)] = some (.d (rD (mk a b)), [.d (.int a), .d (.int b)]) := by
  obtain ⟨s1, s2⟩ := sg_ok (a := a) hb (by omega)
  have u : ((Nat.gcd a.natAbs b.natAbs : Nat) : Int) = (Int.gcd a b : Nat) := rfl
  have e := common_ok hc k (a := a) (b := b) h1
  rw [cS, h, bd]
  unfold tPairC runF rD mk
  by_cases p : 0 < b
  · rw [if_pos p] at s1 s2
    simp only [v_var, v_lit, v_op, v_tup, v_lst, v_and, v_or, v_ite, v_chain, v_call, v_comp, v_mut, v_met, vs_nil, vs_cons, x_asg, x_asgT, x_set, x_unp, x_par, x_aug, x_if, x_ifl, frzE_nil, frzE_cons, frzSl_un, frzSl_d, frzSl_own, x_whl, x_for, x_ret, x_retN, x_expr, x_brk, x_cont, x_pass, xs_nil, xs_cons, lockA, unlockA, evCond, rdAs, rdA, boolA, bd, frz, frzs, frzR, slA, slAs, refs, postA, keepA, keepAs, g_nm', g_tp', g_sb', gs_nil', gs_cons', isOwn, isSet, isLs, setAt, putN_eq, fr_d, fr_un, fr_own0, slT, asD, retT, n_nm, n_tp, n_tl, ns_nil, ns_cons, augF, augI, items, mutKeeps, mutF, pick, List.filterMap_cons, List.filterMap_nil, List.getElem?_cons_zero, List.getElem?_cons_succ, List.getElem?_nil, List.length_cons, List.length_nil, List.cons_append, List.nil_append, List.replicate, List.map_cons, List.map_nil, List.set_cons_zero, List.set_cons_succ, List.take_succ_cons, List.take_zero, Option.map_some, Nat.le_refl, Nat.zero_add, Nat.reduceAdd, Nat.reduceSub, Nat.reduceLeDiff, Nat.reduceEqDiff, if_true, if_false, Bool.false_eq_true, reduceIte, List.nodup_nil, List.nodup_cons, List.not_mem_nil, not_false_eq_true, and_true, true_and, List.mem_cons, or_false, or_self, forall_eq, forall_eq_or_imp,  Nat.le_add_left, Nat.zero_le, q_add, q_sub, q_neg, q_no, q_eq, q_ne, q_lt, q_le, q_gt, q_ge, q_toInt, q_abs, q_max2, q_lenL, q_lenS, q_lenT, q_ixL, q_ixT, q_ixS, q_isi_ii, q_isi_bi, q_isi_ib, q_isi_bb, q_isi_tt, q_isi_ll, q_isi_lt, q_isi_tl, q_isN_n, q_isN_t, q_isN_i, q_notN_n, q_notN_t, q_notN_i, q_eqS, q_neS, q_all, q_any, q_sum, q_tuple, q_listT, q_listL, q_idI, q_gcd, q_min2, q_isB, q_notB, Bool.not_true, Bool.not_false, Bool.not_not, at1_0, ixN1_0, at2_0, ixN2_0, at2_1, ixN2_1, at3_0, ixN3_0, at3_1, ixN3_1, at3_2, ixN3_2, at4_0, ixN4_0, at4_1, ixN4_1, at4_2, ixN4_2, at4_3, ixN4_3, at5_0, ixN5_0, at5_1, ixN5_1, at5_2, ixN5_2, at5_3, ixN5_3, at5_4, ixN5_4, at6_0, ixN6_0, at6_1, ixN6_1, at6_2, ixN6_2, at6_3, ixN6_3, at6_4, ixN6_4, at6_5, ixN6_5, ln0, ln1, ln2, ln3, ln4, ln5, ln6, ln7, ln8, ln9, ln10, ln11, ln12, ln13, ln14, ln15, ln16, ln17, ln18, ln19, ln20, ln21, ln22, ln23, ln24, nc0, nc1, nc2, nc3, nc4, nc5, nc6, nc7, nc8, nc9, nc10, nc11, nc12, nc13, nc14, nc15, nc16, false_imp_iff, implies_true, beq_self_eq_true, Int.reduceBEq, Int.reduceLT, Int.reduceLE, decide_true, decide_false, List.all_cons, List.all_nil, List.any_cons, List.any_nil, id_eq, Bool.and_true, Bool.true_and, Bool.and_false, Bool.false_and, Bool.or_true, Bool.true_or, Bool.or_false, Bool.false_or, e, decide_eq_true p, if_pos p, u, q_mul s2, q_fdiv s1]
  · rw [if_neg p] at s1 s2
    simp only [v_var, v_lit, v_op, v_tup, v_lst, v_and, v_or, v_ite, v_chain, v_call, v_comp, v_mut, v_met, vs_nil, vs_cons, x_asg, x_asgT, x_set, x_unp, x_par, x_aug, x_if, x_ifl, frzE_nil, frzE_cons, frzSl_un, frzSl_d, frzSl_own, x_whl, x_for, x_ret, x_retN, x_expr, x_brk, x_cont, x_pass, xs_nil, xs_cons, lockA, unlockA, evCond, rdAs, rdA, boolA, bd, frz, frzs, frzR, slA, slAs, refs, postA, keepA, keepAs, g_nm', g_tp', g_sb', gs_nil', gs_cons', isOwn, isSet, isLs, setAt, putN_eq, fr_d, fr_un, fr_own0, slT, asD, retT, n_nm, n_tp, n_tl, ns_nil, ns_cons, augF, augI, items, mutKeeps, mutF, pick, List.filterMap_cons, List.filterMap_nil, List.getElem?_cons_zero, List.getElem?_cons_succ, List.getElem?_nil, List.length_cons, List.length_nil, List.cons_append, List.nil_append, List.replicate, List.map_cons, List.map_nil, List.set_cons_zero, List.set_cons_succ, List.take_succ_cons, List.take_zero, Option.map_some, Nat.le_refl, Nat.zero_add, Nat.reduceAdd, Nat.reduceSub, Nat.reduceLeDiff, Nat.reduceEqDiff, if_true, if_false, Bool.false_eq_true, reduceIte, List.nodup_nil, List.nodup_cons, List.not_mem_nil, not_false_eq_true, and_true, true_and, List.mem_cons, or_false, or_self, forall_eq, forall_eq_or_imp,  Nat.le_add_left, Nat.zero_le, q_add, q_sub, q_neg, q_no, q_eq, q_ne, q_lt, q_le, q_gt, q_ge, q_toInt, q_abs, q_max2, q_lenL, q_lenS, q_lenT, q_ixL, q_ixT, q_ixS, q_isi_ii, q_isi_bi, q_isi_ib, q_isi_bb, q_isi_tt, q_isi_ll, q_isi_lt, q_isi_tl, q_isN_n, q_isN_t, q_isN_i, q_notN_n, q_notN_t, q_notN_i, q_eqS, q_neS, q_all, q_any, q_sum, q_tuple, q_listT, q_listL, q_idI, q_gcd, q_min2, q_isB, q_notB, Bool.not_true, Bool.not_false, Bool.not_not, at1_0, ixN1_0, at2_0, ixN2_0, at2_1, ixN2_1, at3_0, ixN3_0, at3_1, ixN3_1, at3_2, ixN3_2, at4_0, ixN4_0, at4_1, ixN4_1, at4_2, ixN4_2, at4_3, ixN4_3, at5_0, ixN5_0, at5_1, ixN5_1, at5_2, ixN5_2, at5_3, ixN5_3, at5_4, ixN5_4, at6_0, ixN6_0, at6_1, ixN6_1, at6_2, ixN6_2, at6_3, ixN6_3, at6_4, ixN6_4, at6_5, ixN6_5, ln0, ln1, ln2, ln3, ln4, ln5, ln6, ln7, ln8, ln9, ln10, ln11, ln12, ln13, ln14, ln15, ln16, ln17, ln18, ln19, ln20, ln21, ln22, ln23, ln24, nc0, nc1, nc2, nc3, nc4, nc5, nc6, nc7, nc8, nc9, nc10, nc11, nc12, nc13, nc14, nc15, nc16, false_imp_iff, implies_true, beq_self_eq_true, Int.reduceBEq, Int.reduceLT, Int.reduceLE, decide_true, decide_false, List.all_cons, List.all_nil, List.any_cons, List.any_nil, id_eq, Bool.and_true, Bool.true_and, Bool.and_false, Bool.false_and, Bool.or_true, Bool.true_or, Bool.or_false, Bool.false_or, e, decide_eq_false p, if_neg p, u, q_mul s2, q_fdiv s1]
/-- what makes ratios -/
def Makes (tb : List Fi) (k f n : Nat) : Prop := ∀ a b : Int, b ≠ 0 → b.natAbs < 2 ^ n → callAt tb k f [.d (.int a), .d (.int b)] = some (.d (rD (mk a b)), [.d (.int a), .d (.int b)])
/-- a ratio of at most 2 ^ 300 -/
def Sm (n : Nat) (p : Int × Int) : Prop := Red p ∧ p.1.natAbs < 2 ^ n ∧ p.2.natAbs < 2 ^ n
theorem sm_mk {a b : Int} {n : Nat} (hb : b ≠ 0) (h1 : a.natAbs < 2 ^ n) (h2 : b.natAbs < 2 ^ n) : Sm n (mk a b) := by
  obtain ⟨x, y⟩ := mk_abs (a := a) hb
  exact ⟨mk_red hb, by omega, by omega⟩
theorem sm_mono {n m : Nat} (h : n ≤ m) {p : Int × Int} (hp : Sm n p) : Sm m p := by
  have := Nat.pow_le_pow_right (show 1 ≤ 2 by decide) h
  exact ⟨hp.1, by have := hp.2.1; omega, by have := hp.2.2; omega⟩
theorem abs_mul {a b : Int} {m n : Nat} (h1 : a.natAbs < 2 ^ m) (h2 : b.natAbs < 2 ^ n) : (a * b).natAbs < 2 ^ (m + n) := by
  rw [Int.natAbs_mul, Nat.pow_add]
  have p1 := Nat.pow_pos (n := m) (show 0 < 2 by decide)
  exact Nat.mul_lt_mul_of_lt_of_lt h1 h2
theorem sm_add {n : Nat} {p q : Int × Int} (hp : Sm n p) (hq : Sm n q) : Sm (n + n + 1) (addq p q) := by
  refine sm_mk (red_mul hp.1 hq.1) ?_ ?_
  · have := abs_mul hp.2.1 hq.2.2
    have := abs_mul hq.2.1 hp.2.2
    rw [Nat.pow_succ]; omega
  · have := abs_mul hp.2.2 hq.2.2
    rw [Nat.pow_succ]; omega
theorem sm_sub {n : Nat} {p q : Int × Int} (hp : Sm n p) (hq : Sm n q) : Sm (n + n + 1) (subq p q) := by
  refine sm_mk (red_mul hp.1 hq.1) ?_ ?_
  · have := abs_mul hp.2.1 hq.2.2
    have := abs_mul hq.2.1 hp.2.2
    rw [Nat.pow_succ]; omega
  · have := abs_mul hp.2.2 hq.2.2
    rw [Nat.pow_succ]; omega
theorem sm_mul {n : Nat} {p q : Int × Int} (hp : Sm n p) (hq : Sm n q) : Sm (n + n) (mulq p q) :=
  sm_mk (red_mul hp.1 hq.1) (abs_mul hp.2.1 hq.2.1) (abs_mul hp.2.2 hq.2.2)
theorem sm_div {n : Nat} {p q : Int × Int} (hp : Sm n p) (hq : Sm n q) (z : q.1 ≠ 0) : Sm (n + n) (divq p q) :=
  sm_mk (Int.mul_ne_zero (red_ne hp.1) z) (abs_mul hp.2.1 hq.2.2) (abs_mul hp.2.2 hq.2.1)
theorem sm_ok {n : Nat} {p q : Int × Int} (hn : 0 < n) (h2 : n ≤ 10000) (hp : Sm n p) (hq : Sm n q) : mulOk p.1 q.2 = true ∧ mulOk p.2 q.2 = true ∧ mulOk p.1 q.1 = true ∧ mulOk p.2 q.1 = true :=
  ⟨mulOk_of hp.2.1 hq.2.2 hn hn (by omega), mulOk_of hp.2.2 hq.2.2 hn hn (by omega), mulOk_of hp.2.1 hq.2.1 hn hn (by omega), mulOk_of hp.2.2 hq.2.1 hn hn (by omega)⟩
theorem addq_ok {f m n k : Nat} {b : Bool} (h : tb[f]? = some (tAdd m b)) (hm : Makes tb k m (n + n)) (hn : 0 < n) (h2 : n ≤ 10000) {p q : Int × Int} (hp : Sm n p) (hq : Sm n q) : callAt tb (k + 1) f [.d (rD p), .d (rD q)] = some (.d (rD (addq p q)), [.d (rD p), .d (rD q)]) := by
  obtain ⟨a1, a2, a3, a4⟩ := sm_ok hn h2 hp hq
  obtain ⟨b1, b2, b3, b4⟩ := sm_ok hn h2 hq hp
  have e := hm (p.1 * q.2 + q.1 * p.2) (p.2 * q.2) (red_mul hp.1 hq.1) (abs_mul hp.2.2 hq.2.2)
  rw [cS, h, bd]
  unfold tAdd runF addq
  unfold rD at *
  cases b <;> simp only [v_var, v_lit, v_op, v_tup, v_lst, v_and, v_or, v_ite, v_chain, v_call, v_comp, v_mut, v_met, vs_nil, vs_cons, x_asg, x_asgT, x_set, x_unp, x_par, x_aug, x_if, x_ifl, frzE_nil, frzE_cons, frzSl_un, frzSl_d, frzSl_own, x_whl, x_for, x_ret, x_retN, x_expr, x_brk, x_cont, x_pass, xs_nil, xs_cons, lockA, unlockA, evCond, rdAs, rdA, boolA, bd, frz, frzs, frzR, slA, slAs, refs, postA, keepA, keepAs, g_nm', g_tp', g_sb', gs_nil', gs_cons', isOwn, isSet, isLs, setAt, putN_eq, fr_d, fr_un, fr_own0, slT, asD, retT, n_nm, n_tp, n_tl, ns_nil, ns_cons, augF, augI, items, mutKeeps, mutF, pick, List.filterMap_cons, List.filterMap_nil, List.getElem?_cons_zero, List.getElem?_cons_succ, List.getElem?_nil, List.length_cons, List.length_nil, List.cons_append, List.nil_append, List.replicate, List.map_cons, List.map_nil, List.set_cons_zero, List.set_cons_succ, List.take_succ_cons, List.take_zero, Option.map_some, Nat.le_refl, Nat.zero_add, Nat.reduceAdd, Nat.reduceSub, Nat.reduceLeDiff, Nat.reduceEqDiff, if_true, if_false, Bool.false_eq_true, reduceIte, List.nodup_nil, List.nodup_cons, List.not_mem_nil, not_false_eq_true, and_true, true_and, List.mem_cons, or_false, or_self, forall_eq, forall_eq_or_imp,  Nat.le_add_left, Nat.zero_le, q_add, q_sub, q_neg, q_no, q_eq, q_ne, q_lt, q_le, q_gt, q_ge, q_toInt, q_abs, q_max2, q_lenL, q_lenS, q_lenT, q_ixL, q_ixT, q_ixS, q_isi_ii, q_isi_bi, q_isi_ib, q_isi_bb, q_isi_tt, q_isi_ll, q_isi_lt, q_isi_tl, q_isN_n, q_isN_t, q_isN_i, q_notN_n, q_notN_t, q_notN_i, q_eqS, q_neS, q_all, q_any, q_sum, q_tuple, q_listT, q_listL, q_idI, q_gcd, q_min2, q_isB, q_notB, Bool.not_true, Bool.not_false, Bool.not_not, at1_0, ixN1_0, at2_0, ixN2_0, at2_1, ixN2_1, at3_0, ixN3_0, at3_1, ixN3_1, at3_2, ixN3_2, at4_0, ixN4_0, at4_1, ixN4_1, at4_2, ixN4_2, at4_3, ixN4_3, at5_0, ixN5_0, at5_1, ixN5_1, at5_2, ixN5_2, at5_3, ixN5_3, at5_4, ixN5_4, at6_0, ixN6_0, at6_1, ixN6_1, at6_2, ixN6_2, at6_3, ixN6_3, at6_4, ixN6_4, at6_5, ixN6_5, ln0, ln1, ln2, ln3, ln4, ln5, ln6, ln7, ln8, ln9, ln10, ln11, ln12, ln13, ln14, ln15, ln16, ln17, ln18, ln19, ln20, ln21, ln22, ln23, ln24, nc0, nc1, nc2, nc3, nc4, nc5, nc6, nc7, nc8, nc9, nc10, nc11, nc12, nc13, nc14, nc15, nc16, false_imp_iff, implies_true, beq_self_eq_true, Int.reduceBEq, Int.reduceLT, Int.reduceLE, decide_true, decide_false, List.all_cons, List.all_nil, List.any_cons, List.any_nil, id_eq, Bool.and_true, Bool.true_and, Bool.and_false, Bool.false_and, Bool.or_true, Bool.true_or, Bool.or_false, Bool.false_or, q_mul a1, q_mul a2, q_mul b1, e]
theorem subq_ok {f m n k : Nat} {b : Bool} (h : tb[f]? = some (tSub m b)) (hm : Makes tb k m (n + n)) (hn : 0 < n) (h2 : n ≤ 10000) {p q : Int × Int} (hp : Sm n p) (hq : Sm n q) : callAt tb (k + 1) f [.d (rD p), .d (rD q)] = some (.d (rD (subq p q)), [.d (rD p), .d (rD q)]) := by
  obtain ⟨a1, a2, a3, a4⟩ := sm_ok hn h2 hp hq
  obtain ⟨b1, b2, b3, b4⟩ := sm_ok hn h2 hq hp
  have e := hm (p.1 * q.2 - q.1 * p.2) (p.2 * q.2) (red_mul hp.1 hq.1) (abs_mul hp.2.2 hq.2.2)
  rw [cS, h, bd]
  unfold tSub runF subq
  unfold rD at *
  cases b <;> simp only [v_var, v_lit, v_op, v_tup, v_lst, v_and, v_or, v_ite, v_chain, v_call, v_comp, v_mut, v_met, vs_nil, vs_cons, x_asg, x_asgT, x_set, x_unp, x_par, x_aug, x_if, x_ifl, frzE_nil, frzE_cons, frzSl_un, frzSl_d, frzSl_own, x_whl, x_for, x_ret, x_retN, x_expr, x_brk, x_cont, x_pass, xs_nil, xs_cons, lockA, unlockA, evCond, rdAs, rdA, boolA, bd, frz, frzs, frzR, slA, slAs, refs, postA, keepA, keepAs, g_nm', g_tp', g_sb', gs_nil', gs_cons', isOwn, isSet, isLs, setAt, putN_eq, fr_d, fr_un, fr_own0, slT, asD, retT, n_nm, n_tp, n_tl, ns_nil, ns_cons, augF, augI, items, mutKeeps, mutF, pick, List.filterMap_cons, List.filterMap_nil, List.getElem?_cons_zero, List.getElem?_cons_succ, List.getElem?_nil, List.length_cons, List.length_nil, List.cons_append, List.nil_append, List.replicate, List.map_cons, List.map_nil, List.set_cons_zero, List.set_cons_succ, List.take_succ_cons, List.take_zero, Option.map_some, Nat.le_refl, Nat.zero_add, Nat.reduceAdd, Nat.reduceSub, Nat.reduceLeDiff, Nat.reduceEqDiff, if_true, if_false, Bool.false_eq_true, reduceIte, List.nodup_nil, List.nodup_cons, List.not_mem_nil, not_false_eq_true, and_true, true_and, List.mem_cons, or_false, or_self, forall_eq, forall_eq_or_imp,  Nat.le_add_left, Nat.zero_le, q_add, q_sub, q_neg, q_no, q_eq, q_ne, q_lt, q_le, q_gt, q_ge, q_toInt, q_abs, q_max2, q_lenL, q_lenS, q_lenT, q_ixL, q_ixT, q_ixS, q_isi_ii, q_isi_bi, q_isi_ib, q_isi_bb, q_isi_tt, q_isi_ll, q_isi_lt, q_isi_tl, q_isN_n, q_isN_t, q_isN_i, q_notN_n, q_notN_t, q_notN_i, q_eqS, q_neS, q_all, q_any, q_sum, q_tuple, q_listT, q_listL, q_idI, q_gcd, q_min2, q_isB, q_notB, Bool.not_true, Bool.not_false, Bool.not_not, at1_0, ixN1_0, at2_0, ixN2_0, at2_1, ixN2_1, at3_0, ixN3_0, at3_1, ixN3_1, at3_2, ixN3_2, at4_0, ixN4_0, at4_1, ixN4_1, at4_2, ixN4_2, at4_3, ixN4_3, at5_0, ixN5_0, at5_1, ixN5_1, at5_2, ixN5_2, at5_3, ixN5_3, at5_4, ixN5_4, at6_0, ixN6_0, at6_1, ixN6_1, at6_2, ixN6_2, at6_3, ixN6_3, at6_4, ixN6_4, at6_5, ixN6_5, ln0, ln1, ln2, ln3, ln4, ln5, ln6, ln7, ln8, ln9, ln10, ln11, ln12, ln13, ln14, ln15, ln16, ln17, ln18, ln19, ln20, ln21, ln22, ln23, ln24, nc0, nc1, nc2, nc3, nc4, nc5, nc6, nc7, nc8, nc9, nc10, nc11, nc12, nc13, nc14, nc15, nc16, false_imp_iff, implies_true, beq_self_eq_true, Int.reduceBEq, Int.reduceLT, Int.reduceLE, decide_true, decide_false, List.all_cons, List.all_nil, List.any_cons, List.any_nil, id_eq, Bool.and_true, Bool.true_and, Bool.and_false, Bool.false_and, Bool.or_true, Bool.true_or, Bool.or_false, Bool.false_or, q_mul a1, q_mul a2, q_mul b1, e]
theorem mulq_ok {f m n k : Nat} {b : Bool} (h : tb[f]? = some (tMul m b)) (hm : Makes tb k m (n + n)) (hn : 0 < n) (h2 : n ≤ 10000) {p q : Int × Int} (hp : Sm n p) (hq : Sm n q) : callAt tb (k + 1) f [.d (rD p), .d (rD q)] = some (.d (rD (mulq p q)), [.d (rD p), .d (rD q)]) := by
  obtain ⟨a1, a2, a3, a4⟩ := sm_ok hn h2 hp hq
  have e := hm (p.1 * q.1) (p.2 * q.2) (red_mul hp.1 hq.1) (abs_mul hp.2.2 hq.2.2)
  rw [cS, h, bd]
  unfold tMul runF mulq
  unfold rD at *
  cases b <;> simp only [v_var, v_lit, v_op, v_tup, v_lst, v_and, v_or, v_ite, v_chain, v_call, v_comp, v_mut, v_met, vs_nil, vs_cons, x_asg, x_asgT, x_set, x_unp, x_par, x_aug, x_if, x_ifl, frzE_nil, frzE_cons, frzSl_un, frzSl_d, frzSl_own, x_whl, x_for, x_ret, x_retN, x_expr, x_brk, x_cont, x_pass, xs_nil, xs_cons, lockA, unlockA, evCond, rdAs, rdA, boolA, bd, frz, frzs, frzR, slA, slAs, refs, postA, keepA, keepAs, g_nm', g_tp', g_sb', gs_nil', gs_cons', isOwn, isSet, isLs, setAt, putN_eq, fr_d, fr_un, fr_own0, slT, asD, retT, n_nm, n_tp, n_tl, ns_nil, ns_cons, augF, augI, items, mutKeeps, mutF, pick, List.filterMap_cons, List.filterMap_nil, List.getElem?_cons_zero, List.getElem?_cons_succ, List.getElem?_nil, List.length_cons, List.length_nil, List.cons_append, List.nil_append, List.replicate, List.map_cons, List.map_nil, List.set_cons_zero, List.set_cons_succ, List.take_succ_cons, List.take_zero, Option.map_some, Nat.le_refl, Nat.zero_add, Nat.reduceAdd, Nat.reduceSub, Nat.reduceLeDiff, Nat.reduceEqDiff, if_true, if_false, Bool.false_eq_true, reduceIte, List.nodup_nil, List.nodup_cons, List.not_mem_nil, not_false_eq_true, and_true, true_and, List.mem_cons, or_false, or_self, forall_eq, forall_eq_or_imp,  Nat.le_add_left, Nat.zero_le, q_add, q_sub, q_neg, q_no, q_eq, q_ne, q_lt, q_le, q_gt, q_ge, q_toInt, q_abs, q_max2, q_lenL, q_lenS, q_lenT, q_ixL, q_ixT, q_ixS, q_isi_ii, q_isi_bi, q_isi_ib, q_isi_bb, q_isi_tt, q_isi_ll, q_isi_lt, q_isi_tl, q_isN_n, q_isN_t, q_isN_i, q_notN_n, q_notN_t, q_notN_i, q_eqS, q_neS, q_all, q_any, q_sum, q_tuple, q_listT, q_listL, q_idI, q_gcd, q_min2, q_isB, q_notB, Bool.not_true, Bool.not_false, Bool.not_not, at1_0, ixN1_0, at2_0, ixN2_0, at2_1, ixN2_1, at3_0, ixN3_0, at3_1, ixN3_1, at3_2, ixN3_2, at4_0, ixN4_0, at4_1, ixN4_1, at4_2, ixN4_2, at4_3, ixN4_3, at5_0, ixN5_0, at5_1, ixN5_1, at5_2, ixN5_2, at5_3, ixN5_3, at5_4, ixN5_4, at6_0, ixN6_0, at6_1, ixN6_1, at6_2, ixN6_2, at6_3, ixN6_3, at6_4, ixN6_4, at6_5, ixN6_5, ln0, ln1, ln2, ln3, ln4, ln5, ln6, ln7, ln8, ln9, ln10, ln11, ln12, ln13, ln14, ln15, ln16, ln17, ln18, ln19, ln20, ln21, ln22, ln23, ln24, nc0, nc1, nc2, nc3, nc4, nc5, nc6, nc7, nc8, nc9, nc10, nc11, nc12, nc13, nc14, nc15, nc16, false_imp_iff, implies_true, beq_self_eq_true, Int.reduceBEq, Int.reduceLT, Int.reduceLE, decide_true, decide_false, List.all_cons, List.all_nil, List.any_cons, List.any_nil, id_eq, Bool.and_true, Bool.true_and, Bool.and_false, Bool.false_and, Bool.or_true, Bool.true_or, Bool.or_false, Bool.false_or, q_mul a3, q_mul a2, e]
theorem divq_ok {f m n k : Nat} {b : Bool} (h : tb[f]? = some (tDiv m b)) (hm : Makes tb k m (n + n)) (hn : 0 < n) (h2 : n ≤ 10000) {p q : Int × Int} (hp : Sm n p) (hq : Sm n q) (z : q.1 ≠ 0) : callAt tb (k + 1) f [.d (rD p), .d (rD q)] = some (.d (rD (divq p q)), [.d (rD p), .d (rD q)]) := by
  obtain ⟨a1, a2, a3, a4⟩ := sm_ok hn h2 hp hq
  have e := hm (p.1 * q.2) (p.2 * q.1) (Int.mul_ne_zero (red_ne hp.1) z) (abs_mul hp.2.2 hq.2.1)
  rw [cS, h, bd]
  unfold tDiv runF divq
  unfold rD at *
  cases b <;> simp only [v_var, v_lit, v_op, v_tup, v_lst, v_and, v_or, v_ite, v_chain, v_call, v_comp, v_mut, v_met, vs_nil, vs_cons, x_asg, x_asgT, x_set, x_unp, x_par, x_aug, x_if, x_ifl, frzE_nil, frzE_cons, frzSl_un, frzSl_d, frzSl_own, x_whl, x_for, x_ret, x_retN, x_expr, x_brk, x_cont, x_pass, xs_nil, xs_cons, lockA, unlockA, evCond, rdAs, rdA, boolA, bd, frz, frzs, frzR, slA, slAs, refs, postA, keepA, keepAs, g_nm', g_tp', g_sb', gs_nil', gs_cons', isOwn, isSet, isLs, setAt, putN_eq, fr_d, fr_un, fr_own0, slT, asD, retT, n_nm, n_tp, n_tl, ns_nil, ns_cons, augF, augI, items, mutKeeps, mutF, pick, List.filterMap_cons, List.filterMap_nil, List.getElem?_cons_zero, List.getElem?_cons_succ, List.getElem?_nil, List.length_cons, List.length_nil, List.cons_append, List.nil_append, List.replicate, List.map_cons, List.map_nil, List.set_cons_zero, List.set_cons_succ, List.take_succ_cons, List.take_zero, Option.map_some, Nat.le_refl, Nat.zero_add, Nat.reduceAdd, Nat.reduceSub, Nat.reduceLeDiff, Nat.reduceEqDiff, if_true, if_false, Bool.false_eq_true, reduceIte, List.nodup_nil, List.nodup_cons, List.not_mem_nil, not_false_eq_true, and_true, true_and, List.mem_cons, or_false, or_self, forall_eq, forall_eq_or_imp,  Nat.le_add_left, Nat.zero_le, q_add, q_sub, q_neg, q_no, q_eq, q_ne, q_lt, q_le, q_gt, q_ge, q_toInt, q_abs, q_max2, q_lenL, q_lenS, q_lenT, q_ixL, q_ixT, q_ixS, q_isi_ii, q_isi_bi, q_isi_ib, q_isi_bb, q_isi_tt, q_isi_ll, q_isi_lt, q_isi_tl, q_isN_n, q_isN_t, q_isN_i, q_notN_n, q_notN_t, q_notN_i, q_eqS, q_neS, q_all, q_any, q_sum, q_tuple, q_listT, q_listL, q_idI, q_gcd, q_min2, q_isB, q_notB, Bool.not_true, Bool.not_false, Bool.not_not, at1_0, ixN1_0, at2_0, ixN2_0, at2_1, ixN2_1, at3_0, ixN3_0, at3_1, ixN3_1, at3_2, ixN3_2, at4_0, ixN4_0, at4_1, ixN4_1, at4_2, ixN4_2, at4_3, ixN4_3, at5_0, ixN5_0, at5_1, ixN5_1, at5_2, ixN5_2, at5_3, ixN5_3, at5_4, ixN5_4, at6_0, ixN6_0, at6_1, ixN6_1, at6_2, ixN6_2, at6_3, ixN6_3, at6_4, ixN6_4, at6_5, ixN6_5, ln0, ln1, ln2, ln3, ln4, ln5, ln6, ln7, ln8, ln9, ln10, ln11, ln12, ln13, ln14, ln15, ln16, ln17, ln18, ln19, ln20, ln21, ln22, ln23, ln24, nc0, nc1, nc2, nc3, nc4, nc5, nc6, nc7, nc8, nc9, nc10, nc11, nc12, nc13, nc14, nc15, nc16, false_imp_iff, implies_true, beq_self_eq_true, Int.reduceBEq, Int.reduceLT, Int.reduceLE, decide_true, decide_false, List.all_cons, List.all_nil, List.any_cons, List.any_nil, id_eq, Bool.and_true, Bool.true_and, Bool.and_false, Bool.false_and, Bool.or_true, Bool.true_or, Bool.or_false, Bool.false_or, q_mul a1, q_mul a4, e]
theorem ltq_ok {f n : Nat} (h : tb[f]? = some tLt) (k : Nat) (hn : 0 < n) (h2 : n ≤ 10000) {p q : Int × Int} (hp : Sm n p) (hq : Sm n q) : callAt tb (k + 1) f [.d (rD p), .d (rD q)] = some (.d (.bl (ltq p q)), [.d (rD p), .d (rD q)]) := by
  obtain ⟨a1, a2, a3, a4⟩ := sm_ok hn h2 hp hq
  obtain ⟨b1, b2, b3, b4⟩ := sm_ok hn h2 hq hp
  rw [cS, h, bd]
  unfold tLt runF ltq
  unfold rD at *
  simp only [v_var, v_lit, v_op, v_tup, v_lst, v_and, v_or, v_ite, v_chain, v_call, v_comp, v_mut, v_met, vs_nil, vs_cons, x_asg, x_asgT, x_set, x_unp, x_par, x_aug, x_if, x_ifl, frzE_nil, frzE_cons, frzSl_un, frzSl_d, frzSl_own, x_whl, x_for, x_ret, x_retN, x_expr, x_brk, x_cont, x_pass, xs_nil, xs_cons, lockA, unlockA, evCond, rdAs, rdA, boolA, bd, frz, frzs, frzR, slA, slAs, refs, postA, keepA, keepAs, g_nm', g_tp', g_sb', gs_nil', gs_cons', isOwn, isSet, isLs, setAt, putN_eq, fr_d, fr_un, fr_own0, slT, asD, retT, n_nm, n_tp, n_tl, ns_nil, ns_cons, augF, augI, items, mutKeeps, mutF, pick, List.filterMap_cons, List.filterMap_nil, List.getElem?_cons_zero, List.getElem?_cons_succ, List.getElem?_nil, List.length_cons, List.length_nil, List.cons_append, List.nil_append, List.replicate, List.map_cons, List.map_nil, List.set_cons_zero, List.set_cons_succ, List.take_succ_cons, List.take_zero, Option.map_some, Nat.le_refl, Nat.zero_add, Nat.reduceAdd, Nat.reduceSub, Nat.reduceLeDiff, Nat.reduceEqDiff, if_true, if_false, Bool.false_eq_true, reduceIte, List.nodup_nil, List.nodup_cons, List.not_mem_nil, not_false_eq_true, and_true, true_and, List.mem_cons, or_false, or_self, forall_eq, forall_eq_or_imp,  Nat.le_add_left, Nat.zero_le, q_add, q_sub, q_neg, q_no, q_eq, q_ne, q_lt, q_le, q_gt, q_ge, q_toInt, q_abs, q_max2, q_lenL, q_lenS, q_lenT, q_ixL, q_ixT, q_ixS, q_isi_ii, q_isi_bi, q_isi_ib, q_isi_bb, q_isi_tt, q_isi_ll, q_isi_lt, q_isi_tl, q_isN_n, q_isN_t, q_isN_i, q_notN_n, q_notN_t, q_notN_i, q_eqS, q_neS, q_all, q_any, q_sum, q_tuple, q_listT, q_listL, q_idI, q_gcd, q_min2, q_isB, q_notB, Bool.not_true, Bool.not_false, Bool.not_not, at1_0, ixN1_0, at2_0, ixN2_0, at2_1, ixN2_1, at3_0, ixN3_0, at3_1, ixN3_1, at3_2, ixN3_2, at4_0, ixN4_0, at4_1, ixN4_1, at4_2, ixN4_2, at4_3, ixN4_3, at5_0, ixN5_0, at5_1, ixN5_1, at5_2, ixN5_2, at5_3, ixN5_3, at5_4, ixN5_4, at6_0, ixN6_0, at6_1, ixN6_1, at6_2, ixN6_2, at6_3, ixN6_3, at6_4, ixN6_4, at6_5, ixN6_5, ln0, ln1, ln2, ln3, ln4, ln5, ln6, ln7, ln8, ln9, ln10, ln11, ln12, ln13, ln14, ln15, ln16, ln17, ln18, ln19, ln20, ln21, ln22, ln23, ln24, nc0, nc1, nc2, nc3, nc4, nc5, nc6, nc7, nc8, nc9, nc10, nc11, nc12, nc13, nc14, nc15, nc16, false_imp_iff, implies_true, beq_self_eq_true, Int.reduceBEq, Int.reduceLT, Int.reduceLE, decide_true, decide_false, List.all_cons, List.all_nil, List.any_cons, List.any_nil, id_eq, Bool.and_true, Bool.true_and, Bool.and_false, Bool.false_and, Bool.or_true, Bool.true_or, Bool.or_false, Bool.false_or, q_mul a1, q_mul b1]
theorem com_loop (C : Sem0) (a : Sl) {n : Nat} (hn : 0 < n) : ∀ (xs : List (Int × Int)), (∀ x ∈ xs, Sm n x) → ∀ (L : Int) (m : Nat) (s2 s3 : Sl), 0 < L → L.natAbs < 2 ^ m → 0 < m → m + n * xs.length ≤ 8000 → frS (some s2) = true → frS (some s3) = true →
    ∃ t2 t3, forL (turnF C Fuel (.tp [(.nm 2), (.nm 3)]) [.asg (.nm 1) (.op .mul [(.op .fdiv [(.var 1), (.op .gcd [(.var 1), (.var 3)])]), (.var 3)])]) (xs.map rD) [a, .d (.int L), s2, s3] = some (.nx [a, .d (.int (comq L xs)), t2, t3]) ∧ frS (some t2) = true ∧ frS (some t3) = true ∧ (comq L xs).natAbs < 2 ^ (m + n * xs.length)
  | [], _, L, m, s2, s3, h0, h1, h2, h3, g2, g3 => ⟨s2, s3, rfl, g2, g3, h1⟩
  | x :: xs, hx, L, m, s2, s3, h0, h1, h2, h3, g2, g3 => by
    have hs := hx x (List.mem_cons_self ..)
    obtain ⟨c1, c2, c3, c4⟩ := com_step (L := L) h0 hs.1.1
    have hl : n * (xs.length + 1) = n * xs.length + n := Nat.mul_succ ..
    rw [List.length_cons] at *
    have b1 : (L.fdiv (Int.gcd L x.2 : Nat) * x.2).natAbs < 2 ^ (m + n) := by
      have := abs_mul h1 hs.2.2
      rw [Int.natAbs_mul] at this
      have e1 : ((L * x.2).natAbs : Int) = L * x.2 := by have := Int.mul_pos h0 hs.1.1; omega
      have e2 : L.natAbs * x.2.natAbs = (L * x.2).natAbs := (Int.natAbs_mul _ _).symm
      omega
    obtain ⟨t2, t3, e, k2, k3, kb⟩ := com_loop C a hn xs (fun y hy => hx y (List.mem_cons_of_mem _ hy)) (L.fdiv (Int.gcd L x.2 : Nat) * x.2) (m + n) (.d (.int x.1)) (.d (.int x.2)) c1 b1 (by omega) (by omega) (fr_d _) (fr_d _)
    refine ⟨t2, t3, ?_, k2, k3, by rw [show m + n * (xs.length + 1) = m + n + n * xs.length by omega]; exact kb⟩
    have g0 : 0 < Int.gcd L x.2 := Int.gcd_pos_of_ne_zero_right _ (red_ne hs.1)
    have gl := Int.gcd_le_natAbs_left x.2 (show L ≠ 0 by omega)
    have dv : divOk (Int.gcd L x.2 : Nat) = true := divOk_of (n := m) (by omega) (by omega) h2 (by omega)
    have q0 : (L.fdiv (Int.gcd L x.2 : Nat)).natAbs < 2 ^ m := by
      have := Int.fdiv_eq_ediv_of_nonneg L (show (0 : Int) ≤ (Int.gcd L x.2 : Nat) by omega)
      rw [this]
      have a1 := Int.ediv_nonneg (a := L) (b := (Int.gcd L x.2 : Nat)) (by omega) (by omega)
      have a2 := Int.ediv_le_self (Int.gcd L x.2 : Nat) (a := L) (by omega)
      omega
    have m1 : mulOk (L.fdiv (Int.gcd L x.2 : Nat)) x.2 = true := mulOk_of (m := m) (n := n) q0 hs.2.2 h2 hn (by omega)
    have u : ((Nat.gcd L.natAbs x.2.natAbs : Nat) : Int) = (Int.gcd L x.2 : Nat) := rfl
    have tn : turnF C Fuel (.tp [(.nm 2), (.nm 3)]) [.asg (.nm 1) (.op .mul [(.op .fdiv [(.var 1), (.op .gcd [(.var 1), (.var 3)])]), (.var 3)])] (rD x) [a, .d (.int L), s2, s3] = some (.nx [a, .d (.int (L.fdiv (Int.gcd L x.2 : Nat) * x.2)), .d (.int x.1), .d (.int x.2)]) := by
      unfold turnF rD
      simp only [v_var, v_lit, v_op, v_tup, v_lst, v_and, v_or, v_ite, v_chain, v_call, v_comp, v_mut, v_met, vs_nil, vs_cons, x_asg, x_asgT, x_set, x_unp, x_par, x_aug, x_if, x_ifl, frzE_nil, frzE_cons, frzSl_un, frzSl_d, frzSl_own, x_whl, x_for, x_ret, x_retN, x_expr, x_brk, x_cont, x_pass, xs_nil, xs_cons, lockA, unlockA, evCond, rdAs, rdA, boolA, bd, frz, frzs, frzR, slA, slAs, refs, postA, keepA, keepAs, g_nm', g_tp', g_sb', gs_nil', gs_cons', isOwn, isSet, isLs, setAt, putN_eq, fr_d, fr_un, fr_own0, slT, asD, retT, n_nm, n_tp, n_tl, ns_nil, ns_cons, augF, augI, items, mutKeeps, mutF, pick, List.filterMap_cons, List.filterMap_nil, List.getElem?_cons_zero, List.getElem?_cons_succ, List.getElem?_nil, List.length_cons, List.length_nil, List.cons_append, List.nil_append, List.replicate, List.map_cons, List.map_nil, List.set_cons_zero, List.set_cons_succ, List.take_succ_cons, List.take_zero, Option.map_some, Nat.le_refl, Nat.zero_add, Nat.reduceAdd, Nat.reduceSub, Nat.reduceLeDiff, Nat.reduceEqDiff, if_true, if_false, Bool.false_eq_true, reduceIte, List.nodup_nil, List.nodup_cons, List.not_mem_nil, not_false_eq_true, and_true, true_and, List.mem_cons, or_false, or_self, forall_eq, forall_eq_or_imp,  Nat.le_add_left, Nat.zero_le, q_add, q_sub, q_neg, q_no, q_eq, q_ne, q_lt, q_le, q_gt, q_ge, q_toInt, q_abs, q_max2, q_lenL, q_lenS, q_lenT, q_ixL, q_ixT, q_ixS, q_isi_ii, q_isi_bi, q_isi_ib, q_isi_bb, q_isi_tt, q_isi_ll, q_isi_lt, q_isi_tl, q_isN_n, q_isN_t, q_isN_i, q_notN_n, q_notN_t, q_notN_i, q_eqS, q_neS, q_all, q_any, q_sum, q_tuple, q_listT, q_listL, q_idI, q_gcd, q_min2, q_isB, q_notB, Bool.not_true, Bool.not_false, Bool.not_not, at1_0, ixN1_0, at2_0, ixN2_0, at2_1, ixN2_1, at3_0, ixN3_0, at3_1, ixN3_1, at3_2, ixN3_2, at4_0, ixN4_0, at4_1, ixN4_1, at4_2, ixN4_2, at4_3, ixN4_3, at5_0, ixN5_0, at5_1, ixN5_1, at5_2, ixN5_2, at5_3, ixN5_3, at5_4, ixN5_4, at6_0, ixN6_0, at6_1, ixN6_1, at6_2, ixN6_2, at6_3, ixN6_3, at6_4, ixN6_4, at6_5, ixN6_5, ln0, ln1, ln2, ln3, ln4, ln5, ln6, ln7, ln8, ln9, ln10, ln11, ln12, ln13, ln14, ln15, ln16, ln17, ln18, ln19, ln20, ln21, ln22, ln23, ln24, nc0, nc1, nc2, nc3, nc4, nc5, nc6, nc7, nc8, nc9, nc10, nc11, nc12, nc13, nc14, nc15, nc16, false_imp_iff, implies_true, beq_self_eq_true, Int.reduceBEq, Int.reduceLT, Int.reduceLE, decide_true, decide_false, List.all_cons, List.all_nil, List.any_cons, List.any_nil, id_eq, Bool.and_true, Bool.true_and, Bool.and_false, Bool.false_and, Bool.or_true, Bool.true_or, Bool.or_false, Bool.false_or, g2, g3, u, q_fdiv dv, q_mul m1]
    rw [List.map_cons, for_cons tn, e]
    rfl
/-- the ways in which a row of values may be handed -/
def Hd (a : Sl) (xs : List D) : Prop := a = .own xs 1 ∨ a = .d (.tup xs) ∨ a = .d (.lst xs)
theorem com_ok' {f : Nat} (h : tb[f]? = some tCom) (k : Nat) {n : Nat} (hn : 0 < n) {xs : List (Int × Int)} (hx : ∀ x ∈ xs, Sm n x) (hl : 1 + n * xs.length ≤ 8000) {a : Sl} (ha : Hd a (xs.map rD)) :
    callAt tb (k + 1) f [a] = some (.d (.int (comq 1 xs)), [a]) := by
  have w1 : wkL .seq [.tup (xs.map rD)] = some (xs.map rD) := rfl
  have w2 : wkL .seq [.lst (xs.map rD)] = some (xs.map rD) := rfl
  rcases ha with rfl | rfl | rfl
  · obtain ⟨t2, t3, e, _⟩ := com_loop (callAt tb k) (.own (xs.map rD) 3) hn xs hx 1 1 .un .un (by decide) (by decide) (by decide) hl fr_un fr_un
    rw [cS, h, bd]
    unfold tCom runF
    simp only [v_var, v_lit, v_op, v_tup, v_lst, v_and, v_or, v_ite, v_chain, v_call, v_comp, v_mut, v_met, vs_nil, vs_cons, x_asg, x_asgT, x_set, x_unp, x_par, x_aug, x_if, x_ifl, frzE_nil, frzE_cons, frzSl_un, frzSl_d, frzSl_own, x_whl, x_for, x_ret, x_retN, x_expr, x_brk, x_cont, x_pass, xs_nil, xs_cons, lockA, unlockA, evCond, rdAs, rdA, boolA, bd, frz, frzs, frzR, slA, slAs, refs, postA, keepA, keepAs, g_nm', g_tp', g_sb', gs_nil', gs_cons', isOwn, isSet, isLs, setAt, putN_eq, fr_d, fr_un, fr_own0, slT, asD, retT, n_nm, n_tp, n_tl, ns_nil, ns_cons, augF, augI, items, mutKeeps, mutF, pick, List.filterMap_cons, List.filterMap_nil, List.getElem?_cons_zero, List.getElem?_cons_succ, List.getElem?_nil, List.length_cons, List.length_nil, List.cons_append, List.nil_append, List.replicate, List.map_cons, List.map_nil, List.set_cons_zero, List.set_cons_succ, List.take_succ_cons, List.take_zero, Option.map_some, Nat.le_refl, Nat.zero_add, Nat.reduceAdd, Nat.reduceSub, Nat.reduceLeDiff, Nat.reduceEqDiff, if_true, if_false, Bool.false_eq_true, reduceIte, List.nodup_nil, List.nodup_cons, List.not_mem_nil, not_false_eq_true, and_true, true_and, List.mem_cons, or_false, or_self, forall_eq, forall_eq_or_imp,  Nat.le_add_left, Nat.zero_le, q_add, q_sub, q_neg, q_no, q_eq, q_ne, q_lt, q_le, q_gt, q_ge, q_toInt, q_abs, q_max2, q_lenL, q_lenS, q_lenT, q_ixL, q_ixT, q_ixS, q_isi_ii, q_isi_bi, q_isi_ib, q_isi_bb, q_isi_tt, q_isi_ll, q_isi_lt, q_isi_tl, q_isN_n, q_isN_t, q_isN_i, q_notN_n, q_notN_t, q_notN_i, q_eqS, q_neS, q_all, q_any, q_sum, q_tuple, q_listT, q_listL, q_idI, q_gcd, q_min2, q_isB, q_notB, Bool.not_true, Bool.not_false, Bool.not_not, at1_0, ixN1_0, at2_0, ixN2_0, at2_1, ixN2_1, at3_0, ixN3_0, at3_1, ixN3_1, at3_2, ixN3_2, at4_0, ixN4_0, at4_1, ixN4_1, at4_2, ixN4_2, at4_3, ixN4_3, at5_0, ixN5_0, at5_1, ixN5_1, at5_2, ixN5_2, at5_3, ixN5_3, at5_4, ixN5_4, at6_0, ixN6_0, at6_1, ixN6_1, at6_2, ixN6_2, at6_3, ixN6_3, at6_4, ixN6_4, at6_5, ixN6_5, ln0, ln1, ln2, ln3, ln4, ln5, ln6, ln7, ln8, ln9, ln10, ln11, ln12, ln13, ln14, ln15, ln16, ln17, ln18, ln19, ln20, ln21, ln22, ln23, ln24, nc0, nc1, nc2, nc3, nc4, nc5, nc6, nc7, nc8, nc9, nc10, nc11, nc12, nc13, nc14, nc15, nc16, false_imp_iff, implies_true, beq_self_eq_true, Int.reduceBEq, Int.reduceLT, Int.reduceLE, decide_true, decide_false, List.all_cons, List.all_nil, List.any_cons, List.any_nil, id_eq, Bool.and_true, Bool.true_and, Bool.and_false, Bool.false_and, Bool.or_true, Bool.true_or, Bool.or_false, Bool.false_or, w2, e]
  · obtain ⟨t2, t3, e, _⟩ := com_loop (callAt tb k) (.d (.tup (xs.map rD))) hn xs hx 1 1 .un .un (by decide) (by decide) (by decide) hl fr_un fr_un
    rw [cS, h, bd]
    unfold tCom runF
    simp only [v_var, v_lit, v_op, v_tup, v_lst, v_and, v_or, v_ite, v_chain, v_call, v_comp, v_mut, v_met, vs_nil, vs_cons, x_asg, x_asgT, x_set, x_unp, x_par, x_aug, x_if, x_ifl, frzE_nil, frzE_cons, frzSl_un, frzSl_d, frzSl_own, x_whl, x_for, x_ret, x_retN, x_expr, x_brk, x_cont, x_pass, xs_nil, xs_cons, lockA, unlockA, evCond, rdAs, rdA, boolA, bd, frz, frzs, frzR, slA, slAs, refs, postA, keepA, keepAs, g_nm', g_tp', g_sb', gs_nil', gs_cons', isOwn, isSet, isLs, setAt, putN_eq, fr_d, fr_un, fr_own0, slT, asD, retT, n_nm, n_tp, n_tl, ns_nil, ns_cons, augF, augI, items, mutKeeps, mutF, pick, List.filterMap_cons, List.filterMap_nil, List.getElem?_cons_zero, List.getElem?_cons_succ, List.getElem?_nil, List.length_cons, List.length_nil, List.cons_append, List.nil_append, List.replicate, List.map_cons, List.map_nil, List.set_cons_zero, List.set_cons_succ, List.take_succ_cons, List.take_zero, Option.map_some, Nat.le_refl, Nat.zero_add, Nat.reduceAdd, Nat.reduceSub, Nat.reduceLeDiff, Nat.reduceEqDiff, if_true, if_false, Bool.false_eq_true, reduceIte, List.nodup_nil, List.nodup_cons, List.not_mem_nil, not_false_eq_true, and_true, true_and, List.mem_cons, or_false, or_self, forall_eq, forall_eq_or_imp,  Nat.le_add_left, Nat.zero_le, q_add, q_sub, q_neg, q_no, q_eq, q_ne, q_lt, q_le, q_gt, q_ge, q_toInt, q_abs, q_max2, q_lenL, q_lenS, q_lenT, q_ixL, q_ixT, q_ixS, q_isi_ii, q_isi_bi, q_isi_ib, q_isi_bb, q_isi_tt, q_isi_ll, q_isi_lt, q_isi_tl, q_isN_n, q_isN_t, q_isN_i, q_notN_n, q_notN_t, q_notN_i, q_eqS, q_neS, q_all, q_any, q_sum, q_tuple, q_listT, q_listL, q_idI, q_gcd, q_min2, q_isB, q_notB, Bool.not_true, Bool.not_false, Bool.not_not, at1_0, ixN1_0, at2_0, ixN2_0, at2_1, ixN2_1, at3_0, ixN3_0, at3_1, ixN3_1, at3_2, ixN3_2, at4_0, ixN4_0, at4_1, ixN4_1, at4_2, ixN4_2, at4_3, ixN4_3, at5_0, ixN5_0, at5_1, ixN5_1, at5_2, ixN5_2, at5_3, ixN5_3, at5_4, ixN5_4, at6_0, ixN6_0, at6_1, ixN6_1, at6_2, ixN6_2, at6_3, ixN6_3, at6_4, ixN6_4, at6_5, ixN6_5, ln0, ln1, ln2, ln3, ln4, ln5, ln6, ln7, ln8, ln9, ln10, ln11, ln12, ln13, ln14, ln15, ln16, ln17, ln18, ln19, ln20, ln21, ln22, ln23, ln24, nc0, nc1, nc2, nc3, nc4, nc5, nc6, nc7, nc8, nc9, nc10, nc11, nc12, nc13, nc14, nc15, nc16, false_imp_iff, implies_true, beq_self_eq_true, Int.reduceBEq, Int.reduceLT, Int.reduceLE, decide_true, decide_false, List.all_cons, List.all_nil, List.any_cons, List.any_nil, id_eq, Bool.and_true, Bool.true_and, Bool.and_false, Bool.false_and, Bool.or_true, Bool.true_or, Bool.or_false, Bool.false_or, w1, e]
  · obtain ⟨t2, t3, e, _⟩ := com_loop (callAt tb k) (.d (.lst (xs.map rD))) hn xs hx 1 1 .un .un (by decide) (by decide) (by decide) hl fr_un fr_un
    rw [cS, h, bd]
    unfold tCom runF
    simp only [v_var, v_lit, v_op, v_tup, v_lst, v_and, v_or, v_ite, v_chain, v_call, v_comp, v_mut, v_met, vs_nil, vs_cons, x_asg, x_asgT, x_set, x_unp, x_par, x_aug, x_if, x_ifl, frzE_nil, frzE_cons, frzSl_un, frzSl_d, frzSl_own, x_whl, x_for, x_ret, x_retN, x_expr, x_brk, x_cont, x_pass, xs_nil, xs_cons, lockA, unlockA, evCond, rdAs, rdA, boolA, bd, frz, frzs, frzR, slA, slAs, refs, postA, keepA, keepAs, g_nm', g_tp', g_sb', gs_nil', gs_cons', isOwn, isSet, isLs, setAt, putN_eq, fr_d, fr_un, fr_own0, slT, asD, retT, n_nm, n_tp, n_tl, ns_nil, ns_cons, augF, augI, items, mutKeeps, mutF, pick, List.filterMap_cons, List.filterMap_nil, List.getElem?_cons_zero, List.getElem?_cons_succ, List.getElem?_nil, List.length_cons, List.length_nil, List.cons_append, List.nil_append, List.replicate, List.map_cons, List.map_nil, List.set_cons_zero, List.set_cons_succ, List.take_succ_cons, List.take_zero, Option.map_some, Nat.le_refl, Nat.zero_add, Nat.reduceAdd, Nat.reduceSub, Nat.reduceLeDiff, Nat.reduceEqDiff, if_true, if_false, Bool.false_eq_true, reduceIte, List.nodup_nil, List.nodup_cons, List.not_mem_nil, not_false_eq_true, and_true, true_and, List.mem_cons, or_false, or_self, forall_eq, forall_eq_or_imp,  Nat.le_add_left, Nat.zero_le, q_add, q_sub, q_neg, q_no, q_eq, q_ne, q_lt, q_le, q_gt, q_ge, q_toInt, q_abs, q_max2, q_lenL, q_lenS, q_lenT, q_ixL, q_ixT, q_ixS, q_isi_ii, q_isi_bi, q_isi_ib, q_isi_bb, q_isi_tt, q_isi_ll, q_isi_lt, q_isi_tl, q_isN_n, q_isN_t, q_isN_i, q_notN_n, q_notN_t, q_notN_i, q_eqS, q_neS, q_all, q_any, q_sum, q_tuple, q_listT, q_listL, q_idI, q_gcd, q_min2, q_isB, q_notB, Bool.not_true, Bool.not_false, Bool.not_not, at1_0, ixN1_0, at2_0, ixN2_0, at2_1, ixN2_1, at3_0, ixN3_0, at3_1, ixN3_1, at3_2, ixN3_2, at4_0, ixN4_0, at4_1, ixN4_1, at4_2, ixN4_2, at4_3, ixN4_3, at5_0, ixN5_0, at5_1, ixN5_1, at5_2, ixN5_2, at5_3, ixN5_3, at5_4, ixN5_4, at6_0, ixN6_0, at6_1, ixN6_1, at6_2, ixN6_2, at6_3, ixN6_3, at6_4, ixN6_4, at6_5, ixN6_5, ln0, ln1, ln2, ln3, ln4, ln5, ln6, ln7, ln8, ln9, ln10, ln11, ln12, ln13, ln14, ln15, ln16, ln17, ln18, ln19, ln20, ln21, ln22, ln23, ln24, nc0, nc1, nc2, nc3, nc4, nc5, nc6, nc7, nc8, nc9, nc10, nc11, nc12, nc13, nc14, nc15, nc16, false_imp_iff, implies_true, beq_self_eq_true, Int.reduceBEq, Int.reduceLT, Int.reduceLE, decide_true, decide_false, List.all_cons, List.all_nil, List.any_cons, List.any_nil, id_eq, Bool.and_true, Bool.true_and, Bool.and_false, Bool.false_and, Bool.or_true, Bool.true_or, Bool.or_false, Bool.false_or, w2, e]
/-- the total of a row of ratios -/
theorem total_ok {c m f k n : Nat} (hc : tb[c]? = some tCom) (hm : Makes tb (k + 1) m 4000) (h : tb[f]? = some (tTotal c m)) (hn : 0 < n) {xs : List (Int × Int)} (hx : ∀ x ∈ xs, Sm n x) (hl : 1 + n * xs.length ≤ 4000) (hk : xs.length ≤ 100000) {a : Sl} (ha : Hd a (xs.map rD)) :
    callAt tb (k + 2) f [a] = some (.d (rD (totq xs)), [a]) := by
  have e1 := com_ok' hc k hn hx (by omega) ha
  obtain ⟨_, _, _, _, _, cb⟩ := com_loop (callAt tb k) a hn xs hx 1 1 .un .un (by decide) (by decide) (by decide) (by omega) fr_un fr_un
  obtain ⟨L0, _, L2⟩ := com_ok (xs := xs) (fun x hx' => (hx x hx').1.1) (L := 1) (by decide)
  have cb' : (comq 1 xs).natAbs < 2 ^ 4000 := Nat.lt_of_lt_of_le cb (Nat.pow_le_pow_right (by decide) hl)
  have e2 := hm (tops (comq 1 xs) xs) (comq 1 xs) (by omega) cb'
  generalize hL : comq 1 xs = L at *
  let fd : D → D := fun d => match d with | .tup [.int t, .int b] => .int (t * L.fdiv b) | _ => .non
  have cmp : ∀ (b : Sl), ∃ s2 s3, compL (stepC (callAt tb (k + 1)) (.op .mul [(.var 2), (.op .fdiv [(.var 1), (.var 3)])]) (.tp [(.nm 2), (.nm 3)]) [] [2, 3]) (xs.map rD) [b, .d (.int L), .un, .un] = some ((xs.map rD).map fd, [b, .d (.int L), s2, s3]) := fun b => by
    obtain ⟨en, c1, s2, s3, rfl⟩ := comp_inv (step := stepC (callAt tb (k + 1)) (.op .mul [(.var 2), (.op .fdiv [(.var 1), (.var 3)])]) (.tp [(.nm 2), (.nm 3)]) [] [2, 3]) (fun en => ∃ s2 s3, en = [b, .d (.int L), s2, s3]) fd (xs := xs.map rD) (fun d hd en ⟨s2, s3, e⟩ => by
      obtain ⟨x, hx', rfl⟩ := List.mem_map.mp hd
      have hs := hx x hx'
      subst e
      refine ⟨[b, .d (.int L), .d (.int x.1), .d (.int x.2)], ?_, _, _, rfl⟩
      have n8 : n ≤ 4000 := by
        cases xs with
        | nil => cases hx'
        | cons y ys => rw [List.length_cons, Nat.mul_succ] at hl; omega
      have dv : divOk x.2 = true := divOk_of (n := n) (red_ne hs.1) hs.2.2 hn (by omega)
      have q0 : (L.fdiv x.2).natAbs < 2 ^ 4000 := by
        have h0 := hs.1.1
        have := Int.fdiv_eq_ediv_of_nonneg L (show (0 : Int) ≤ x.2 by omega)
        rw [this]
        have a1 := Int.ediv_nonneg (a := L) (b := x.2) (by omega) (by omega)
        have a2 := Int.ediv_le_self x.2 (a := L) (by omega)
        omega
      have m1 : mulOk x.1 (L.fdiv x.2) = true := mulOk_of (m := n) (n := 4000) hs.2.1 q0 hn (by decide) (by omega)
      unfold stepC rD
      simp only [wipeE, v_var, v_lit, v_op, v_tup, v_lst, v_and, v_or, v_ite, v_chain, v_call, v_comp, v_mut, v_met, vs_nil, vs_cons, x_asg, x_asgT, x_set, x_unp, x_par, x_aug, x_if, x_ifl, frzE_nil, frzE_cons, frzSl_un, frzSl_d, frzSl_own, x_whl, x_for, x_ret, x_retN, x_expr, x_brk, x_cont, x_pass, xs_nil, xs_cons, lockA, unlockA, evCond, rdAs, rdA, boolA, bd, frz, frzs, frzR, slA, slAs, refs, postA, keepA, keepAs, g_nm', g_tp', g_sb', gs_nil', gs_cons', isOwn, isSet, isLs, setAt, putN_eq, fr_d, fr_un, fr_own0, slT, asD, retT, n_nm, n_tp, n_tl, ns_nil, ns_cons, augF, augI, items, mutKeeps, mutF, pick, List.filterMap_cons, List.filterMap_nil, List.getElem?_cons_zero, List.getElem?_cons_succ, List.getElem?_nil, List.length_cons, List.length_nil, List.cons_append, List.nil_append, List.replicate, List.map_cons, List.map_nil, List.set_cons_zero, List.set_cons_succ, List.take_succ_cons, List.take_zero, Option.map_some, Nat.le_refl, Nat.zero_add, Nat.reduceAdd, Nat.reduceSub, Nat.reduceLeDiff, Nat.reduceEqDiff, if_true, if_false, Bool.false_eq_true, reduceIte, List.nodup_nil, List.nodup_cons, List.not_mem_nil, not_false_eq_true, and_true, true_and, List.mem_cons, or_false, or_self, forall_eq, forall_eq_or_imp,  Nat.le_add_left, Nat.zero_le, q_add, q_sub, q_neg, q_no, q_eq, q_ne, q_lt, q_le, q_gt, q_ge, q_toInt, q_abs, q_max2, q_lenL, q_lenS, q_lenT, q_ixL, q_ixT, q_ixS, q_isi_ii, q_isi_bi, q_isi_ib, q_isi_bb, q_isi_tt, q_isi_ll, q_isi_lt, q_isi_tl, q_isN_n, q_isN_t, q_isN_i, q_notN_n, q_notN_t, q_notN_i, q_eqS, q_neS, q_all, q_any, q_sum, q_tuple, q_listT, q_listL, q_idI, q_gcd, q_min2, q_isB, q_notB, Bool.not_true, Bool.not_false, Bool.not_not, at1_0, ixN1_0, at2_0, ixN2_0, at2_1, ixN2_1, at3_0, ixN3_0, at3_1, ixN3_1, at3_2, ixN3_2, at4_0, ixN4_0, at4_1, ixN4_1, at4_2, ixN4_2, at4_3, ixN4_3, at5_0, ixN5_0, at5_1, ixN5_1, at5_2, ixN5_2, at5_3, ixN5_3, at5_4, ixN5_4, at6_0, ixN6_0, at6_1, ixN6_1, at6_2, ixN6_2, at6_3, ixN6_3, at6_4, ixN6_4, at6_5, ixN6_5, ln0, ln1, ln2, ln3, ln4, ln5, ln6, ln7, ln8, ln9, ln10, ln11, ln12, ln13, ln14, ln15, ln16, ln17, ln18, ln19, ln20, ln21, ln22, ln23, ln24, nc0, nc1, nc2, nc3, nc4, nc5, nc6, nc7, nc8, nc9, nc10, nc11, nc12, nc13, nc14, nc15, nc16, false_imp_iff, implies_true, beq_self_eq_true, Int.reduceBEq, Int.reduceLT, Int.reduceLE, decide_true, decide_false, List.all_cons, List.all_nil, List.any_cons, List.any_nil, id_eq, Bool.and_true, Bool.true_and, Bool.and_false, Bool.false_and, Bool.or_true, Bool.true_or, Bool.or_false, Bool.false_or, q_fdiv dv, q_mul m1]
      rfl) (en := [b, .d (.int L), .un, .un]) ⟨_, _, rfl⟩
    exact ⟨s2, s3, c1⟩
  have em : (xs.map rD).map fd = xs.map fun x => .int (x.1 * L.fdiv x.2) := by
    rw [List.map_map]; rfl
  have sm : intsD ((xs.map rD).map fd) = some (xs.map fun x => x.1 * L.fdiv x.2) := by
    rw [em]; exact intsD_map _ _
  have tp : (xs.map fun x => x.1 * L.fdiv x.2).sum = tops L xs := rfl
  have ll : (xs.map rD).length ≤ line := by
    rw [List.length_map]
    exact Nat.le_trans hk (by decide)
  have w1 : wkL .seq [.tup (xs.map rD)] = some (xs.map rD) := rfl
  have w2 : wkL .seq [.lst (xs.map rD)] = some (xs.map rD) := rfl
  have eL : totq xs = mk (tops L xs) L := by unfold totq; rw [hL]
  rw [eL, cS, h, bd]
  unfold tTotal runF
  rcases ha with rfl | rfl | rfl
  · obtain ⟨s2, s3, c1⟩ := cmp (.own (xs.map rD) 3)
    simp only [v_var, v_lit, v_op, v_tup, v_lst, v_and, v_or, v_ite, v_chain, v_call, v_comp, v_mut, v_met, vs_nil, vs_cons, x_asg, x_asgT, x_set, x_unp, x_par, x_aug, x_if, x_ifl, frzE_nil, frzE_cons, frzSl_un, frzSl_d, frzSl_own, x_whl, x_for, x_ret, x_retN, x_expr, x_brk, x_cont, x_pass, xs_nil, xs_cons, lockA, unlockA, evCond, rdAs, rdA, boolA, bd, frz, frzs, frzR, slA, slAs, refs, postA, keepA, keepAs, g_nm', g_tp', g_sb', gs_nil', gs_cons', isOwn, isSet, isLs, setAt, putN_eq, fr_d, fr_un, fr_own0, slT, asD, retT, n_nm, n_tp, n_tl, ns_nil, ns_cons, augF, augI, items, mutKeeps, mutF, pick, List.filterMap_cons, List.filterMap_nil, List.getElem?_cons_zero, List.getElem?_cons_succ, List.getElem?_nil, List.length_cons, List.length_nil, List.cons_append, List.nil_append, List.replicate, List.map_cons, List.map_nil, List.set_cons_zero, List.set_cons_succ, List.take_succ_cons, List.take_zero, Option.map_some, Nat.le_refl, Nat.zero_add, Nat.reduceAdd, Nat.reduceSub, Nat.reduceLeDiff, Nat.reduceEqDiff, if_true, if_false, Bool.false_eq_true, reduceIte, List.nodup_nil, List.nodup_cons, List.not_mem_nil, not_false_eq_true, and_true, true_and, List.mem_cons, or_false, or_self, forall_eq, forall_eq_or_imp,  Nat.le_add_left, Nat.zero_le, q_add, q_sub, q_neg, q_no, q_eq, q_ne, q_lt, q_le, q_gt, q_ge, q_toInt, q_abs, q_max2, q_lenL, q_lenS, q_lenT, q_ixL, q_ixT, q_ixS, q_isi_ii, q_isi_bi, q_isi_ib, q_isi_bb, q_isi_tt, q_isi_ll, q_isi_lt, q_isi_tl, q_isN_n, q_isN_t, q_isN_i, q_notN_n, q_notN_t, q_notN_i, q_eqS, q_neS, q_all, q_any, q_sum, q_tuple, q_listT, q_listL, q_idI, q_gcd, q_min2, q_isB, q_notB, Bool.not_true, Bool.not_false, Bool.not_not, at1_0, ixN1_0, at2_0, ixN2_0, at2_1, ixN2_1, at3_0, ixN3_0, at3_1, ixN3_1, at3_2, ixN3_2, at4_0, ixN4_0, at4_1, ixN4_1, at4_2, ixN4_2, at4_3, ixN4_3, at5_0, ixN5_0, at5_1, ixN5_1, at5_2, ixN5_2, at5_3, ixN5_3, at5_4, ixN5_4, at6_0, ixN6_0, at6_1, ixN6_1, at6_2, ixN6_2, at6_3, ixN6_3, at6_4, ixN6_4, at6_5, ixN6_5, ln0, ln1, ln2, ln3, ln4, ln5, ln6, ln7, ln8, ln9, ln10, ln11, ln12, ln13, ln14, ln15, ln16, ln17, ln18, ln19, ln20, ln21, ln22, ln23, ln24, nc0, nc1, nc2, nc3, nc4, nc5, nc6, nc7, nc8, nc9, nc10, nc11, nc12, nc13, nc14, nc15, nc16, false_imp_iff, implies_true, beq_self_eq_true, Int.reduceBEq, Int.reduceLT, Int.reduceLE, decide_true, decide_false, List.all_cons, List.all_nil, List.any_cons, List.any_nil, id_eq, Bool.and_true, Bool.true_and, Bool.and_false, Bool.false_and, Bool.or_true, Bool.true_or, Bool.or_false, Bool.false_or, e1, w2, ll, c1, backE, sm, tp, e2]
  · obtain ⟨s2, s3, c1⟩ := cmp (.d (.tup (xs.map rD)))
    simp only [v_var, v_lit, v_op, v_tup, v_lst, v_and, v_or, v_ite, v_chain, v_call, v_comp, v_mut, v_met, vs_nil, vs_cons, x_asg, x_asgT, x_set, x_unp, x_par, x_aug, x_if, x_ifl, frzE_nil, frzE_cons, frzSl_un, frzSl_d, frzSl_own, x_whl, x_for, x_ret, x_retN, x_expr, x_brk, x_cont, x_pass, xs_nil, xs_cons, lockA, unlockA, evCond, rdAs, rdA, boolA, bd, frz, frzs, frzR, slA, slAs, refs, postA, keepA, keepAs, g_nm', g_tp', g_sb', gs_nil', gs_cons', isOwn, isSet, isLs, setAt, putN_eq, fr_d, fr_un, fr_own0, slT, asD, retT, n_nm, n_tp, n_tl, ns_nil, ns_cons, augF, augI, items, mutKeeps, mutF, pick, List.filterMap_cons, List.filterMap_nil, List.getElem?_cons_zero, List.getElem?_cons_succ, List.getElem?_nil, List.length_cons, List.length_nil, List.cons_append, List.nil_append, List.replicate, List.map_cons, List.map_nil, List.set_cons_zero, List.set_cons_succ, List.take_succ_cons, List.take_zero, Option.map_some, Nat.le_refl, Nat.zero_add, Nat.reduceAdd, Nat.reduceSub, Nat.reduceLeDiff, Nat.reduceEqDiff, if_true, if_false, Bool.false_eq_true, reduceIte, List.nodup_nil, List.nodup_cons, List.not_mem_nil, not_false_eq_true, and_true, true_and, List.mem_cons, or_false, or_self, forall_eq, forall_eq_or_imp,  Nat.le_add_left, Nat.zero_le, q_add, q_sub, q_neg, q_no, q_eq, q_ne, q_lt, q_le, q_gt, q_ge, q_toInt, q_abs, q_max2, q_lenL, q_lenS, q_lenT, q_ixL, q_ixT, q_ixS, q_isi_ii, q_isi_bi, q_isi_ib, q_isi_bb, q_isi_tt, q_isi_ll, q_isi_lt, q_isi_tl, q_isN_n, q_isN_t, q_isN_i, q_notN_n, q_notN_t, q_notN_i, q_eqS, q_neS, q_all, q_any, q_sum, q_tuple, q_listT, q_listL, q_idI, q_gcd, q_min2, q_isB, q_notB, Bool.not_true, Bool.not_false, Bool.not_not, at1_0, ixN1_0, at2_0, ixN2_0, at2_1, ixN2_1, at3_0, ixN3_0, at3_1, ixN3_1, at3_2, ixN3_2, at4_0, ixN4_0, at4_1, ixN4_1, at4_2, ixN4_2, at4_3, ixN4_3, at5_0, ixN5_0, at5_1, ixN5_1, at5_2, ixN5_2, at5_3, ixN5_3, at5_4, ixN5_4, at6_0, ixN6_0, at6_1, ixN6_1, at6_2, ixN6_2, at6_3, ixN6_3, at6_4, ixN6_4, at6_5, ixN6_5, ln0, ln1, ln2, ln3, ln4, ln5, ln6, ln7, ln8, ln9, ln10, ln11, ln12, ln13, ln14, ln15, ln16, ln17, ln18, ln19, ln20, ln21, ln22, ln23, ln24, nc0, nc1, nc2, nc3, nc4, nc5, nc6, nc7, nc8, nc9, nc10, nc11, nc12, nc13, nc14, nc15, nc16, false_imp_iff, implies_true, beq_self_eq_true, Int.reduceBEq, Int.reduceLT, Int.reduceLE, decide_true, decide_false, List.all_cons, List.all_nil, List.any_cons, List.any_nil, id_eq, Bool.and_true, Bool.true_and, Bool.and_false, Bool.false_and, Bool.or_true, Bool.true_or, Bool.or_false, Bool.false_or, e1, w1, ll, c1, backE, sm, tp, e2]
  · obtain ⟨s2, s3, c1⟩ := cmp (.d (.lst (xs.map rD)))
    simp only [v_var, v_lit, v_op, v_tup, v_lst, v_and, v_or, v_ite, v_chain, v_call, v_comp, v_mut, v_met, vs_nil, vs_cons, x_asg, x_asgT, x_set, x_unp, x_par, x_aug, x_if, x_ifl, frzE_nil, frzE_cons, frzSl_un, frzSl_d, frzSl_own, x_whl, x_for, x_ret, x_retN, x_expr, x_brk, x_cont, x_pass, xs_nil, xs_cons, lockA, unlockA, evCond, rdAs, rdA, boolA, bd, frz, frzs, frzR, slA, slAs, refs, postA, keepA, keepAs, g_nm', g_tp', g_sb', gs_nil', gs_cons', isOwn, isSet, isLs, setAt, putN_eq, fr_d, fr_un, fr_own0, slT, asD, retT, n_nm, n_tp, n_tl, ns_nil, ns_cons, augF, augI, items, mutKeeps, mutF, pick, List.filterMap_cons, List.filterMap_nil, List.getElem?_cons_zero, List.getElem?_cons_succ, List.getElem?_nil, List.length_cons, List.length_nil, List.cons_append, List.nil_append, List.replicate, List.map_cons, List.map_nil, List.set_cons_zero, List.set_cons_succ, List.take_succ_cons, List.take_zero, Option.map_some, Nat.le_refl, Nat.zero_add, Nat.reduceAdd, Nat.reduceSub, Nat.reduceLeDiff, Nat.reduceEqDiff, if_true, if_false, Bool.false_eq_true, reduceIte, List.nodup_nil, List.nodup_cons, List.not_mem_nil, not_false_eq_true, and_true, true_and, List.mem_cons, or_false, or_self, forall_eq, forall_eq_or_imp,  Nat.le_add_left, Nat.zero_le, q_add, q_sub, q_neg, q_no, q_eq, q_ne, q_lt, q_le, q_gt, q_ge, q_toInt, q_abs, q_max2, q_lenL, q_lenS, q_lenT, q_ixL, q_ixT, q_ixS, q_isi_ii, q_isi_bi, q_isi_ib, q_isi_bb, q_isi_tt, q_isi_ll, q_isi_lt, q_isi_tl, q_isN_n, q_isN_t, q_isN_i, q_notN_n, q_notN_t, q_notN_i, q_eqS, q_neS, q_all, q_any, q_sum, q_tuple, q_listT, q_listL, q_idI, q_gcd, q_min2, q_isB, q_notB, Bool.not_true, Bool.not_false, Bool.not_not, at1_0, ixN1_0, at2_0, ixN2_0, at2_1, ixN2_1, at3_0, ixN3_0, at3_1, ixN3_1, at3_2, ixN3_2, at4_0, ixN4_0, at4_1, ixN4_1, at4_2, ixN4_2, at4_3, ixN4_3, at5_0, ixN5_0, at5_1, ixN5_1, at5_2, ixN5_2, at5_3, ixN5_3, at5_4, ixN5_4, at6_0, ixN6_0, at6_1, ixN6_1, at6_2, ixN6_2, at6_3, ixN6_3, at6_4, ixN6_4, at6_5, ixN6_5, ln0, ln1, ln2, ln3, ln4, ln5, ln6, ln7, ln8, ln9, ln10, ln11, ln12, ln13, ln14, ln15, ln16, ln17, ln18, ln19, ln20, ln21, ln22, ln23, ln24, nc0, nc1, nc2, nc3, nc4, nc5, nc6, nc7, nc8, nc9, nc10, nc11, nc12, nc13, nc14, nc15, nc16, false_imp_iff, implies_true, beq_self_eq_true, Int.reduceBEq, Int.reduceLT, Int.reduceLE, decide_true, decide_false, List.all_cons, List.all_nil, List.any_cons, List.any_nil, id_eq, Bool.and_true, Bool.true_and, Bool.and_false, Bool.false_and, Bool.or_true, Bool.true_or, Bool.or_false, Bool.false_or, e1, w2, ll, c1, backE, sm, tp, e2]
def lmB : List S := [.ifs (.op .eq [(.var 5), (.lit (.int 0))]) [.brk] [], .par [(.n (.nm 4)), (.n (.nm 5))] [(.var 5), (.op .mod [(.op .toInt [(.var 4)]), (.var 5)])]]
theorem lm_turn0 (C : Sem0) (x : D) (s0 s1 s2 s3 : Sl) (a : Int) (h2 : frS (some s2) = true) : turnF C Fuel (.nm 2) lmB x [s0, s1, s2, s3, .d (.int a), .d (.int 0)] = some (.bk [s0, s1, .d x, s3, .d (.int a), .d (.int 0)]) := by
  unfold turnF lmB
  simp only [v_var, v_lit, v_op, v_tup, v_lst, v_and, v_or, v_ite, v_chain, v_call, v_comp, v_mut, v_met, vs_nil, vs_cons, x_asg, x_asgT, x_set, x_unp, x_par, x_aug, x_if, x_ifl, frzE_nil, frzE_cons, frzSl_un, frzSl_d, frzSl_own, x_whl, x_for, x_ret, x_retN, x_expr, x_brk, x_cont, x_pass, xs_nil, xs_cons, lockA, unlockA, evCond, rdAs, rdA, boolA, bd, frz, frzs, frzR, slA, slAs, refs, postA, keepA, keepAs, g_nm', g_tp', g_sb', gs_nil', gs_cons', isOwn, isSet, isLs, setAt, putN_eq, fr_d, fr_un, fr_own0, slT, asD, retT, n_nm, n_tp, n_tl, ns_nil, ns_cons, augF, augI, items, mutKeeps, mutF, pick, List.filterMap_cons, List.filterMap_nil, List.getElem?_cons_zero, List.getElem?_cons_succ, List.getElem?_nil, List.length_cons, List.length_nil, List.cons_append, List.nil_append, List.replicate, List.map_cons, List.map_nil, List.set_cons_zero, List.set_cons_succ, List.take_succ_cons, List.take_zero, Option.map_some, Nat.le_refl, Nat.zero_add, Nat.reduceAdd, Nat.reduceSub, Nat.reduceLeDiff, Nat.reduceEqDiff, if_true, if_false, Bool.false_eq_true, reduceIte, List.nodup_nil, List.nodup_cons, List.not_mem_nil, not_false_eq_true, and_true, true_and, List.mem_cons, or_false, or_self, forall_eq, forall_eq_or_imp,  Nat.le_add_left, Nat.zero_le, q_add, q_sub, q_neg, q_no, q_eq, q_ne, q_lt, q_le, q_gt, q_ge, q_toInt, q_abs, q_max2, q_lenL, q_lenS, q_lenT, q_ixL, q_ixT, q_ixS, q_isi_ii, q_isi_bi, q_isi_ib, q_isi_bb, q_isi_tt, q_isi_ll, q_isi_lt, q_isi_tl, q_isN_n, q_isN_t, q_isN_i, q_notN_n, q_notN_t, q_notN_i, q_eqS, q_neS, q_all, q_any, q_sum, q_tuple, q_listT, q_listL, q_idI, q_gcd, q_min2, q_isB, q_notB, Bool.not_true, Bool.not_false, Bool.not_not, at1_0, ixN1_0, at2_0, ixN2_0, at2_1, ixN2_1, at3_0, ixN3_0, at3_1, ixN3_1, at3_2, ixN3_2, at4_0, ixN4_0, at4_1, ixN4_1, at4_2, ixN4_2, at4_3, ixN4_3, at5_0, ixN5_0, at5_1, ixN5_1, at5_2, ixN5_2, at5_3, ixN5_3, at5_4, ixN5_4, at6_0, ixN6_0, at6_1, ixN6_1, at6_2, ixN6_2, at6_3, ixN6_3, at6_4, ixN6_4, at6_5, ixN6_5, ln0, ln1, ln2, ln3, ln4, ln5, ln6, ln7, ln8, ln9, ln10, ln11, ln12, ln13, ln14, ln15, ln16, ln17, ln18, ln19, ln20, ln21, ln22, ln23, ln24, nc0, nc1, nc2, nc3, nc4, nc5, nc6, nc7, nc8, nc9, nc10, nc11, nc12, nc13, nc14, nc15, nc16, false_imp_iff, implies_true, beq_self_eq_true, Int.reduceBEq, Int.reduceLT, Int.reduceLE, decide_true, decide_false, List.all_cons, List.all_nil, List.any_cons, List.any_nil, id_eq, Bool.and_true, Bool.true_and, Bool.and_false, Bool.false_and, Bool.or_true, Bool.true_or, Bool.or_false, Bool.false_or, h2, x_brk]
theorem lm_turn (C : Sem0) (x : D) (s0 s1 s2 s3 : Sl) (a b : Nat) (hb : b ≠ 0) (h2 : frS (some s2) = true) : turnF C Fuel (.nm 2) lmB x [s0, s1, s2, s3, .d (.int a), .d (.int b)] = some (.nx [s0, s1, .d x, s3, .d (.int b), .d (.int ((a % b : Nat) : Int))]) := by
  have hz : ((b : Int) != 0) = true := by rw [bne_iff_ne]; omega
  have hz2 : ((b : Int) == 0) = false := by rw [beq_eq_false_iff_ne]; omega
  have fm : (a : Int).fmod (b : Int) = ((a % b : Nat) : Int) := by rw [Int.fmod_eq_emod_of_nonneg _ (by omega)]; simp
  unfold turnF lmB
  simp only [v_var, v_lit, v_op, v_tup, v_lst, v_and, v_or, v_ite, v_chain, v_call, v_comp, v_mut, v_met, vs_nil, vs_cons, x_asg, x_asgT, x_set, x_unp, x_par, x_aug, x_if, x_ifl, frzE_nil, frzE_cons, frzSl_un, frzSl_d, frzSl_own, x_whl, x_for, x_ret, x_retN, x_expr, x_brk, x_cont, x_pass, xs_nil, xs_cons, lockA, unlockA, evCond, rdAs, rdA, boolA, bd, frz, frzs, frzR, slA, slAs, refs, postA, keepA, keepAs, g_nm', g_tp', g_sb', gs_nil', gs_cons', isOwn, isSet, isLs, setAt, putN_eq, fr_d, fr_un, fr_own0, slT, asD, retT, n_nm, n_tp, n_tl, ns_nil, ns_cons, augF, augI, items, mutKeeps, mutF, pick, List.filterMap_cons, List.filterMap_nil, List.getElem?_cons_zero, List.getElem?_cons_succ, List.getElem?_nil, List.length_cons, List.length_nil, List.cons_append, List.nil_append, List.replicate, List.map_cons, List.map_nil, List.set_cons_zero, List.set_cons_succ, List.take_succ_cons, List.take_zero, Option.map_some, Nat.le_refl, Nat.zero_add, Nat.reduceAdd, Nat.reduceSub, Nat.reduceLeDiff, Nat.reduceEqDiff, if_true, if_false, Bool.false_eq_true, reduceIte, List.nodup_nil, List.nodup_cons, List.not_mem_nil, not_false_eq_true, and_true, true_and, List.mem_cons, or_false, or_self, forall_eq, forall_eq_or_imp,  Nat.le_add_left, Nat.zero_le, q_add, q_sub, q_neg, q_no, q_eq, q_ne, q_lt, q_le, q_gt, q_ge, q_toInt, q_abs, q_max2, q_lenL, q_lenS, q_lenT, q_ixL, q_ixT, q_ixS, q_isi_ii, q_isi_bi, q_isi_ib, q_isi_bb, q_isi_tt, q_isi_ll, q_isi_lt, q_isi_tl, q_isN_n, q_isN_t, q_isN_i, q_notN_n, q_notN_t, q_notN_i, q_eqS, q_neS, q_all, q_any, q_sum, q_tuple, q_listT, q_listL, q_idI, q_gcd, q_min2, q_isB, q_notB, Bool.not_true, Bool.not_false, Bool.not_not, at1_0, ixN1_0, at2_0, ixN2_0, at2_1, ixN2_1, at3_0, ixN3_0, at3_1, ixN3_1, at3_2, ixN3_2, at4_0, ixN4_0, at4_1, ixN4_1, at4_2, ixN4_2, at4_3, ixN4_3, at5_0, ixN5_0, at5_1, ixN5_1, at5_2, ixN5_2, at5_3, ixN5_3, at5_4, ixN5_4, at6_0, ixN6_0, at6_1, ixN6_1, at6_2, ixN6_2, at6_3, ixN6_3, at6_4, ixN6_4, at6_5, ixN6_5, ln0, ln1, ln2, ln3, ln4, ln5, ln6, ln7, ln8, ln9, ln10, ln11, ln12, ln13, ln14, ln15, ln16, ln17, ln18, ln19, ln20, ln21, ln22, ln23, ln24, nc0, nc1, nc2, nc3, nc4, nc5, nc6, nc7, nc8, nc9, nc10, nc11, nc12, nc13, nc14, nc15, nc16, false_imp_iff, implies_true, beq_self_eq_true, Int.reduceBEq, Int.reduceLT, Int.reduceLE, decide_true, decide_false, List.all_cons, List.all_nil, List.any_cons, List.any_nil, id_eq, Bool.and_true, Bool.true_and, Bool.and_false, Bool.false_and, Bool.or_true, Bool.true_or, Bool.or_false, Bool.false_or, h2, hz2, q_mod hz, fm]
theorem lm_loop (C : Sem0) (s0 s1 s3 : Sl) : ∀ (xs : List D) (j a b : Nat) (s2 : Sl), b ≤ a → a * b < 2 ^ j → j < xs.length → frS (some s2) = true →
    ∃ t2, forL (turnF C Fuel (.nm 2) lmB) xs [s0, s1, s2, s3, .d (.int a), .d (.int b)] = some (.nx [s0, s1, t2, s3, .d (.int (Nat.gcd a b : Nat)), .d (.int 0)])
  | [], j, a, b, s2, _, _, hl, _ => by simp at hl
  | x :: xs, j, a, b, s2, hab, hj, hl, h2 => by
    by_cases hb : b = 0
    · subst hb
      refine ⟨.d x, ?_⟩
      rw [forL, Nat.gcd_zero_right, show ((0 : Nat) : Int) = 0 from rfl, lm_turn0 C x s0 s1 s2 s3 a h2]
      rfl
    · have lt : a % b < b := Nat.mod_lt _ (by omega)
      have j1 : 1 ≤ j := by
        rcases Nat.eq_zero_or_pos j with h | h
        · subst h
          have : 1 * 1 ≤ a * b := Nat.mul_le_mul (by omega) (by omega)
          omega
        · exact h
      have dm := Nat.div_add_mod a b
      have q1 : 1 ≤ a / b := Nat.div_pos hab (by omega)
      have q2 : b * 1 ≤ b * (a / b) := Nat.mul_le_mul_left _ q1
      have q3 : b + a % b ≤ a := by omega
      have q4 : (b + a % b) * b ≤ a * b := Nat.mul_le_mul_right _ q3
      have q5 : (a % b) * b ≤ b * b := Nat.mul_le_mul_right _ (by omega)
      have q6 : (b + a % b) * b = b * b + a % b * b := Nat.add_mul ..
      have q7 : a % b * b = b * (a % b) := Nat.mul_comm ..
      have p2 : 2 ^ j = 2 * 2 ^ (j - 1) := by rw [← Nat.pow_succ']; congr 1; omega
      have lt2 : b * (a % b) < 2 ^ (j - 1) := by
        rcases Nat.eq_zero_or_pos (a % b) with h | h
        · rw [h, Nat.mul_zero]; exact Nat.pow_pos (by decide)
        · have : b * (a % b) < b * b := (Nat.mul_lt_mul_left (by omega)).mpr lt
          omega
      obtain ⟨t2, e⟩ := lm_loop C s0 s1 s3 xs (j - 1) b (a % b) (.d x) (by omega) lt2 (by simp at hl; omega) (fr_d _)
      refine ⟨t2, ?_⟩
      rw [for_cons (lm_turn C x s0 s1 s2 s3 a b hb h2), e]
      have g : Nat.gcd b (a % b) = Nat.gcd a b := by rw [Nat.gcd_comm a b, Nat.gcd_rec b a, Nat.gcd_comm]
      rw [g]
theorem lawMade_ok' {tb : List Fi} {f : Nat} (h : tb[f]? = some tLawMade) (k : Nat) {a b : Int} (hb : b ≠ 0) (ha1 : a.natAbs < 2 ^ 1900) (hb1 : b.natAbs < 2 ^ 1900) : callAt tb (k + 1) f [.d (.int a), .d (.int b)] = some (.d (rD (mk a b)), [.d (.int a), .d (.int b)]) := by
  have ab : ∀ i : Int, (if i < 0 then -i else i) = ((i.natAbs : Nat) : Int) := fun i => by split <;> omega
  have wt' : wkL .range [.int 4000] = some (rangeD 0 4000) := range1_ok (by decide) (by decide)
  have r0 : rangeD 0 4000 = .int (0 + ((0 : Nat) : Int)) :: (List.range 3999).map fun i => .int (0 + ((i + 1 : Nat) : Int)) := by
    unfold rangeD
    rw [show 4000 = 3999 + 1 from rfl, List.range_succ_eq_map, List.map_cons, List.map_map]; rfl
  obtain ⟨t2, lp⟩ : ∃ t2, forL (turnF (callAt tb k) Fuel (.nm 2) lmB) (rangeD 0 4000) [.d (.int a), .d (.int b), .un, .un, .d (.int (a.natAbs : Nat)), .d (.int (b.natAbs : Nat))] = some (.nx [.d (.int a), .d (.int b), t2, .un, .d (.int (Nat.gcd a.natAbs b.natAbs : Nat)), .d (.int 0)]) := by
    have hb' : b.natAbs ≠ 0 := by omega
    have pr : b.natAbs * (a.natAbs % b.natAbs) < 2 ^ 3800 := by
      have h1 : a.natAbs % b.natAbs ≤ a.natAbs := Nat.mod_le _ _
      have h2 : b.natAbs * (a.natAbs % b.natAbs) ≤ b.natAbs * a.natAbs := Nat.mul_le_mul_left _ h1
      have h3 : b.natAbs * a.natAbs < 2 ^ 1900 * 2 ^ 1900 := Nat.mul_lt_mul_of_lt_of_lt hb1 ha1
      have h4 : (2 : Nat) ^ 1900 * 2 ^ 1900 = 2 ^ 3800 := by rw [← Nat.pow_add]
      omega
    obtain ⟨t2, e⟩ := lm_loop (callAt tb k) (.d (.int a)) (.d (.int b)) .un ((List.range 3999).map fun i => .int (0 + ((i + 1 : Nat) : Int))) 3800 b.natAbs (a.natAbs % b.natAbs) (.d (.int (0 + ((0 : Nat) : Int)))) (Nat.le_of_lt (Nat.mod_lt _ (by omega))) pr (by simp) (fr_d _)
    refine ⟨t2, ?_⟩
    rw [r0, for_cons (lm_turn (callAt tb k) _ _ _ .un .un a.natAbs b.natAbs hb' fr_un), e]
    have g : Nat.gcd b.natAbs (a.natAbs % b.natAbs) = Nat.gcd a.natAbs b.natAbs := by rw [Nat.gcd_comm a.natAbs, Nat.gcd_rec b.natAbs a.natAbs, Nat.gcd_comm]
    rw [g]
  have g0 : 0 < Int.gcd a b := Int.gcd_pos_of_ne_zero_right _ hb
  have gl := Int.gcd_le_natAbs_right a hb
  have u : ((Nat.gcd a.natAbs b.natAbs : Nat) : Int) = (Int.gcd a b : Nat) := rfl
  rw [u] at lp
  have dv : divOk (Int.gcd a b : Nat) = true := divOk_of (n := 1900) (by omega) (by omega) (by decide) (by decide)
  obtain ⟨x, hx⟩ := Int.gcd_dvd_left a b
  obtain ⟨y, hy⟩ := Int.gcd_dvd_right a b
  have m0 : ∀ {c : Int}, c.natAbs < 2 ^ 1900 → mulOk 1 c = true ∧ mulOk (-1) c = true := fun hc => ⟨mulOk_of (m := 2) (n := 1900) (by decide) hc (by decide) (by decide) (by decide), mulOk_of (m := 2) (n := 1900) (by decide) hc (by decide) (by decide) (by decide)⟩
  have body : tLawMade.body = .par [(.n (.nm 4)), (.n (.nm 5))] [(.op .abs [(.var 0)]), (.op .abs [(.var 1)])] :: .for (.nm 2) .range [(.lit (.int 4000))] lmB :: (tLawMade.body.drop 2) := rfl
  rw [cS, h, bd]
  unfold tLawMade runF mk rD
  have lp' := lp
  unfold lmB at lp'
  generalize hg : (Int.gcd a b : Int) = g at *
  by_cases p : 0 < b
  · have e1 : (1 * a).fdiv g = a.fdiv (g * 1) := by rw [Int.one_mul, Int.mul_one]
    have e2 : (1 * b).fdiv g = b.fdiv (g * 1) := by rw [Int.one_mul, Int.mul_one]
    simp only [v_var, v_lit, v_op, v_tup, v_lst, v_and, v_or, v_ite, v_chain, v_call, v_comp, v_mut, v_met, vs_nil, vs_cons, x_asg, x_asgT, x_set, x_unp, x_par, x_aug, x_if, x_ifl, frzE_nil, frzE_cons, frzSl_un, frzSl_d, frzSl_own, x_whl, x_for, x_ret, x_retN, x_expr, x_brk, x_cont, x_pass, xs_nil, xs_cons, lockA, unlockA, evCond, rdAs, rdA, boolA, bd, frz, frzs, frzR, slA, slAs, refs, postA, keepA, keepAs, g_nm', g_tp', g_sb', gs_nil', gs_cons', isOwn, isSet, isLs, setAt, putN_eq, fr_d, fr_un, fr_own0, slT, asD, retT, n_nm, n_tp, n_tl, ns_nil, ns_cons, augF, augI, items, mutKeeps, mutF, pick, List.filterMap_cons, List.filterMap_nil, List.getElem?_cons_zero, List.getElem?_cons_succ, List.getElem?_nil, List.length_cons, List.length_nil, List.cons_append, List.nil_append, List.replicate, List.map_cons, List.map_nil, List.set_cons_zero, List.set_cons_succ, List.take_succ_cons, List.take_zero, Option.map_some, Nat.le_refl, Nat.zero_add, Nat.reduceAdd, Nat.reduceSub, Nat.reduceLeDiff, Nat.reduceEqDiff, if_true, if_false, Bool.false_eq_true, reduceIte, List.nodup_nil, List.nodup_cons, List.not_mem_nil, not_false_eq_true, and_true, true_and, List.mem_cons, or_false, or_self, forall_eq, forall_eq_or_imp,  Nat.le_add_left, Nat.zero_le, q_add, q_sub, q_neg, q_no, q_eq, q_ne, q_lt, q_le, q_gt, q_ge, q_toInt, q_abs, q_max2, q_lenL, q_lenS, q_lenT, q_ixL, q_ixT, q_ixS, q_isi_ii, q_isi_bi, q_isi_ib, q_isi_bb, q_isi_tt, q_isi_ll, q_isi_lt, q_isi_tl, q_isN_n, q_isN_t, q_isN_i, q_notN_n, q_notN_t, q_notN_i, q_eqS, q_neS, q_all, q_any, q_sum, q_tuple, q_listT, q_listL, q_idI, q_gcd, q_min2, q_isB, q_notB, Bool.not_true, Bool.not_false, Bool.not_not, at1_0, ixN1_0, at2_0, ixN2_0, at2_1, ixN2_1, at3_0, ixN3_0, at3_1, ixN3_1, at3_2, ixN3_2, at4_0, ixN4_0, at4_1, ixN4_1, at4_2, ixN4_2, at4_3, ixN4_3, at5_0, ixN5_0, at5_1, ixN5_1, at5_2, ixN5_2, at5_3, ixN5_3, at5_4, ixN5_4, at6_0, ixN6_0, at6_1, ixN6_1, at6_2, ixN6_2, at6_3, ixN6_3, at6_4, ixN6_4, at6_5, ixN6_5, ln0, ln1, ln2, ln3, ln4, ln5, ln6, ln7, ln8, ln9, ln10, ln11, ln12, ln13, ln14, ln15, ln16, ln17, ln18, ln19, ln20, ln21, ln22, ln23, ln24, nc0, nc1, nc2, nc3, nc4, nc5, nc6, nc7, nc8, nc9, nc10, nc11, nc12, nc13, nc14, nc15, nc16, false_imp_iff, implies_true, beq_self_eq_true, Int.reduceBEq, Int.reduceLT, Int.reduceLE, decide_true, decide_false, List.all_cons, List.all_nil, List.any_cons, List.any_nil, id_eq, Bool.and_true, Bool.true_and, Bool.and_false, Bool.false_and, Bool.or_true, Bool.true_or, Bool.or_false, Bool.false_or, ab, wt', lp', decide_eq_true p, if_pos p, q_mul (m0 ha1).1, q_mul (m0 hb1).1, q_fdiv dv, e1, e2]
  · have gz : g ≠ 0 := by omega
    have e1 : (-1 * a).fdiv g = a.fdiv (g * -1) := by
      rw [hx, show -1 * (g * x) = g * (-x) by grind, Int.mul_fdiv_cancel_left _ gz]
      rw [show g * x = (g * -1) * (-x) by grind, Int.mul_fdiv_cancel_left _ (by omega)]
    have e2 : (-1 * b).fdiv g = b.fdiv (g * -1) := by
      rw [hy, show -1 * (g * y) = g * (-y) by grind, Int.mul_fdiv_cancel_left _ gz]
      rw [show g * y = (g * -1) * (-y) by grind, Int.mul_fdiv_cancel_left _ (by omega)]
    simp only [v_var, v_lit, v_op, v_tup, v_lst, v_and, v_or, v_ite, v_chain, v_call, v_comp, v_mut, v_met, vs_nil, vs_cons, x_asg, x_asgT, x_set, x_unp, x_par, x_aug, x_if, x_ifl, frzE_nil, frzE_cons, frzSl_un, frzSl_d, frzSl_own, x_whl, x_for, x_ret, x_retN, x_expr, x_brk, x_cont, x_pass, xs_nil, xs_cons, lockA, unlockA, evCond, rdAs, rdA, boolA, bd, frz, frzs, frzR, slA, slAs, refs, postA, keepA, keepAs, g_nm', g_tp', g_sb', gs_nil', gs_cons', isOwn, isSet, isLs, setAt, putN_eq, fr_d, fr_un, fr_own0, slT, asD, retT, n_nm, n_tp, n_tl, ns_nil, ns_cons, augF, augI, items, mutKeeps, mutF, pick, List.filterMap_cons, List.filterMap_nil, List.getElem?_cons_zero, List.getElem?_cons_succ, List.getElem?_nil, List.length_cons, List.length_nil, List.cons_append, List.nil_append, List.replicate, List.map_cons, List.map_nil, List.set_cons_zero, List.set_cons_succ, List.take_succ_cons, List.take_zero, Option.map_some, Nat.le_refl, Nat.zero_add, Nat.reduceAdd, Nat.reduceSub, Nat.reduceLeDiff, Nat.reduceEqDiff, if_true, if_false, Bool.false_eq_true, reduceIte, List.nodup_nil, List.nodup_cons, List.not_mem_nil, not_false_eq_true, and_true, true_and, List.mem_cons, or_false, or_self, forall_eq, forall_eq_or_imp,  Nat.le_add_left, Nat.zero_le, q_add, q_sub, q_neg, q_no, q_eq, q_ne, q_lt, q_le, q_gt, q_ge, q_toInt, q_abs, q_max2, q_lenL, q_lenS, q_lenT, q_ixL, q_ixT, q_ixS, q_isi_ii, q_isi_bi, q_isi_ib, q_isi_bb, q_isi_tt, q_isi_ll, q_isi_lt, q_isi_tl, q_isN_n, q_isN_t, q_isN_i, q_notN_n, q_notN_t, q_notN_i, q_eqS, q_neS, q_all, q_any, q_sum, q_tuple, q_listT, q_listL, q_idI, q_gcd, q_min2, q_isB, q_notB, Bool.not_true, Bool.not_false, Bool.not_not, at1_0, ixN1_0, at2_0, ixN2_0, at2_1, ixN2_1, at3_0, ixN3_0, at3_1, ixN3_1, at3_2, ixN3_2, at4_0, ixN4_0, at4_1, ixN4_1, at4_2, ixN4_2, at4_3, ixN4_3, at5_0, ixN5_0, at5_1, ixN5_1, at5_2, ixN5_2, at5_3, ixN5_3, at5_4, ixN5_4, at6_0, ixN6_0, at6_1, ixN6_1, at6_2, ixN6_2, at6_3, ixN6_3, at6_4, ixN6_4, at6_5, ixN6_5, ln0, ln1, ln2, ln3, ln4, ln5, ln6, ln7, ln8, ln9, ln10, ln11, ln12, ln13, ln14, ln15, ln16, ln17, ln18, ln19, ln20, ln21, ln22, ln23, ln24, nc0, nc1, nc2, nc3, nc4, nc5, nc6, nc7, nc8, nc9, nc10, nc11, nc12, nc13, nc14, nc15, nc16, false_imp_iff, implies_true, beq_self_eq_true, Int.reduceBEq, Int.reduceLT, Int.reduceLE, decide_true, decide_false, List.all_cons, List.all_nil, List.any_cons, List.any_nil, id_eq, Bool.and_true, Bool.true_and, Bool.and_false, Bool.false_and, Bool.or_true, Bool.true_or, Bool.or_false, Bool.false_or, ab, wt', lp', decide_eq_false p, if_neg p, q_mul (m0 ha1).2, q_mul (m0 hb1).2, q_fdiv dv, e1, e2]
/-- what makes ratios of numbers that are not too great -/
def Makes2 (tb : List Fi) (k f n : Nat) : Prop := ∀ a b : Int, b ≠ 0 → a.natAbs < 2 ^ n → b.natAbs < 2 ^ n → callAt tb k f [.d (.int a), .d (.int b)] = some (.d (rD (mk a b)), [.d (.int a), .d (.int b)])
theorem lawMade2 {tb : List Fi} {f : Nat} (h : tb[f]? = some tLawMade) (k n : Nat) (hn : n ≤ 1900) : Makes2 tb (k + 1) f n := fun a b hb h1 h2 =>
  lawMade_ok' h k hb (Nat.lt_of_lt_of_le h1 (Nat.pow_le_pow_right (by decide) hn)) (Nat.lt_of_lt_of_le h2 (Nat.pow_le_pow_right (by decide) hn))
theorem up1 {x : Nat} {m n : Nat} (h : x < 2 ^ m) (hmn : m ≤ n) : x < 2 ^ n := Nat.lt_of_lt_of_le h (Nat.pow_le_pow_right (by decide) hmn)
theorem add_abs {n : Nat} {p q : Int × Int} (hp : Sm n p) (hq : Sm n q) : (p.1 * q.2 + q.1 * p.2).natAbs < 2 ^ (n + n + 1) ∧ (p.1 * q.2 - q.1 * p.2).natAbs < 2 ^ (n + n + 1) := by
  have h1 := abs_mul hp.2.1 hq.2.2
  have h2 := abs_mul hq.2.1 hp.2.2
  rw [Nat.pow_succ]
  constructor <;> omega
theorem addq_ok2 {tb : List Fi} {f m n k : Nat} {b : Bool} (h : tb[f]? = some (tAdd m b)) (hm : Makes2 tb k m (n + n + 1)) (hn : 0 < n) (h2 : n ≤ 10000) {p q : Int × Int} (hp : Sm n p) (hq : Sm n q) : callAt tb (k + 1) f [.d (rD p), .d (rD q)] = some (.d (rD (addq p q)), [.d (rD p), .d (rD q)]) := by
  obtain ⟨a1, a2, a3, a4⟩ := sm_ok hn h2 hp hq
  obtain ⟨b1, b2, b3, b4⟩ := sm_ok hn h2 hq hp
  have e := hm (p.1 * q.2 + q.1 * p.2) (p.2 * q.2) (red_mul hp.1 hq.1) (add_abs hp hq).1 (up1 (abs_mul hp.2.2 hq.2.2) (by omega))
  rw [cS, h, bd]
  unfold tAdd runF addq
  unfold rD at *
  cases b <;> simp only [v_var, v_lit, v_op, v_tup, v_lst, v_and, v_or, v_ite, v_chain, v_call, v_comp, v_mut, v_met, vs_nil, vs_cons, x_asg, x_asgT, x_set, x_unp, x_par, x_aug, x_if, x_ifl, frzE_nil, frzE_cons, frzSl_un, frzSl_d, frzSl_own, x_whl, x_for, x_ret, x_retN, x_expr, x_brk, x_cont, x_pass, xs_nil, xs_cons, lockA, unlockA, evCond, rdAs, rdA, boolA, bd, frz, frzs, frzR, slA, slAs, refs, postA, keepA, keepAs, g_nm', g_tp', g_sb', gs_nil', gs_cons', isOwn, isSet, isLs, setAt, putN_eq, fr_d, fr_un, fr_own0, slT, asD, retT, n_nm, n_tp, n_tl, ns_nil, ns_cons, augF, augI, items, mutKeeps, mutF, pick, List.filterMap_cons, List.filterMap_nil, List.getElem?_cons_zero, List.getElem?_cons_succ, List.getElem?_nil, List.length_cons, List.length_nil, List.cons_append, List.nil_append, List.replicate, List.map_cons, List.map_nil, List.set_cons_zero, List.set_cons_succ, List.take_succ_cons, List.take_zero, Option.map_some, Nat.le_refl, Nat.zero_add, Nat.reduceAdd, Nat.reduceSub, Nat.reduceLeDiff, Nat.reduceEqDiff, if_true, if_false, Bool.false_eq_true, reduceIte, List.nodup_nil, List.nodup_cons, List.not_mem_nil, not_false_eq_true, and_true, true_and, List.mem_cons, or_false, or_self, forall_eq, forall_eq_or_imp,  Nat.le_add_left, Nat.zero_le, q_add, q_sub, q_neg, q_no, q_eq, q_ne, q_lt, q_le, q_gt, q_ge, q_toInt, q_abs, q_max2, q_lenL, q_lenS, q_lenT, q_ixL, q_ixT, q_ixS, q_isi_ii, q_isi_bi, q_isi_ib, q_isi_bb, q_isi_tt, q_isi_ll, q_isi_lt, q_isi_tl, q_isN_n, q_isN_t, q_isN_i, q_notN_n, q_notN_t, q_notN_i, q_eqS, q_neS, q_all, q_any, q_sum, q_tuple, q_listT, q_listL, q_idI, q_gcd, q_min2, q_isB, q_notB, Bool.not_true, Bool.not_false, Bool.not_not, at1_0, ixN1_0, at2_0, ixN2_0, at2_1, ixN2_1, at3_0, ixN3_0, at3_1, ixN3_1, at3_2, ixN3_2, at4_0, ixN4_0, at4_1, ixN4_1, at4_2, ixN4_2, at4_3, ixN4_3, at5_0, ixN5_0, at5_1, ixN5_1, at5_2, ixN5_2, at5_3, ixN5_3, at5_4, ixN5_4, at6_0, ixN6_0, at6_1, ixN6_1, at6_2, ixN6_2, at6_3, ixN6_3, at6_4, ixN6_4, at6_5, ixN6_5, ln0, ln1, ln2, ln3, ln4, ln5, ln6, ln7, ln8, ln9, ln10, ln11, ln12, ln13, ln14, ln15, ln16, ln17, ln18, ln19, ln20, ln21, ln22, ln23, ln24, nc0, nc1, nc2, nc3, nc4, nc5, nc6, nc7, nc8, nc9, nc10, nc11, nc12, nc13, nc14, nc15, nc16, false_imp_iff, implies_true, beq_self_eq_true, Int.reduceBEq, Int.reduceLT, Int.reduceLE, decide_true, decide_false, List.all_cons, List.all_nil, List.any_cons, List.any_nil, id_eq, Bool.and_true, Bool.true_and, Bool.and_false, Bool.false_and, Bool.or_true, Bool.true_or, Bool.or_false, Bool.false_or, q_mul a1, q_mul a2, q_mul b1, e]
theorem subq_ok2 {tb : List Fi} {f m n k : Nat} {b : Bool} (h : tb[f]? = some (tSub m b)) (hm : Makes2 tb k m (n + n + 1)) (hn : 0 < n) (h2 : n ≤ 10000) {p q : Int × Int} (hp : Sm n p) (hq : Sm n q) : callAt tb (k + 1) f [.d (rD p), .d (rD q)] = some (.d (rD (subq p q)), [.d (rD p), .d (rD q)]) := by
  obtain ⟨a1, a2, a3, a4⟩ := sm_ok hn h2 hp hq
  obtain ⟨b1, b2, b3, b4⟩ := sm_ok hn h2 hq hp
  have e := hm (p.1 * q.2 - q.1 * p.2) (p.2 * q.2) (red_mul hp.1 hq.1) (add_abs hp hq).2 (up1 (abs_mul hp.2.2 hq.2.2) (by omega))
  rw [cS, h, bd]
  unfold tSub runF subq
  unfold rD at *
  cases b <;> simp only [v_var, v_lit, v_op, v_tup, v_lst, v_and, v_or, v_ite, v_chain, v_call, v_comp, v_mut, v_met, vs_nil, vs_cons, x_asg, x_asgT, x_set, x_unp, x_par, x_aug, x_if, x_ifl, frzE_nil, frzE_cons, frzSl_un, frzSl_d, frzSl_own, x_whl, x_for, x_ret, x_retN, x_expr, x_brk, x_cont, x_pass, xs_nil, xs_cons, lockA, unlockA, evCond, rdAs, rdA, boolA, bd, frz, frzs, frzR, slA, slAs, refs, postA, keepA, keepAs, g_nm', g_tp', g_sb', gs_nil', gs_cons', isOwn, isSet, isLs, setAt, putN_eq, fr_d, fr_un, fr_own0, slT, asD, retT, n_nm, n_tp, n_tl, ns_nil, ns_cons, augF, augI, items, mutKeeps, mutF, pick, List.filterMap_cons, List.filterMap_nil, List.getElem?_cons_zero, List.getElem?_cons_succ, List.getElem?_nil, List.length_cons, List.length_nil, List.cons_append, List.nil_append, List.replicate, List.map_cons, List.map_nil, List.set_cons_zero, List.set_cons_succ, List.take_succ_cons, List.take_zero, Option.map_some, Nat.le_refl, Nat.zero_add, Nat.reduceAdd, Nat.reduceSub, Nat.reduceLeDiff, Nat.reduceEqDiff, if_true, if_false, Bool.false_eq_true, reduceIte, List.nodup_nil, List.nodup_cons, List.not_mem_nil, not_false_eq_true, and_true, true_and, List.mem_cons, or_false, or_self, forall_eq, forall_eq_or_imp,  Nat.le_add_left, Nat.zero_le, q_add, q_sub, q_neg, q_no, q_eq, q_ne, q_lt, q_le, q_gt, q_ge, q_toInt, q_abs, q_max2, q_lenL, q_lenS, q_lenT, q_ixL, q_ixT, q_ixS, q_isi_ii, q_isi_bi, q_isi_ib, q_isi_bb, q_isi_tt, q_isi_ll, q_isi_lt, q_isi_tl, q_isN_n, q_isN_t, q_isN_i, q_notN_n, q_notN_t, q_notN_i, q_eqS, q_neS, q_all, q_any, q_sum, q_tuple, q_listT, q_listL, q_idI, q_gcd, q_min2, q_isB, q_notB, Bool.not_true, Bool.not_false, Bool.not_not, at1_0, ixN1_0, at2_0, ixN2_0, at2_1, ixN2_1, at3_0, ixN3_0, at3_1, ixN3_1, at3_2, ixN3_2, at4_0, ixN4_0, at4_1, ixN4_1, at4_2, ixN4_2, at4_3, ixN4_3, at5_0, ixN5_0, at5_1, ixN5_1, at5_2, ixN5_2, at5_3, ixN5_3, at5_4, ixN5_4, at6_0, ixN6_0, at6_1, ixN6_1, at6_2, ixN6_2, at6_3, ixN6_3, at6_4, ixN6_4, at6_5, ixN6_5, ln0, ln1, ln2, ln3, ln4, ln5, ln6, ln7, ln8, ln9, ln10, ln11, ln12, ln13, ln14, ln15, ln16, ln17, ln18, ln19, ln20, ln21, ln22, ln23, ln24, nc0, nc1, nc2, nc3, nc4, nc5, nc6, nc7, nc8, nc9, nc10, nc11, nc12, nc13, nc14, nc15, nc16, false_imp_iff, implies_true, beq_self_eq_true, Int.reduceBEq, Int.reduceLT, Int.reduceLE, decide_true, decide_false, List.all_cons, List.all_nil, List.any_cons, List.any_nil, id_eq, Bool.and_true, Bool.true_and, Bool.and_false, Bool.false_and, Bool.or_true, Bool.true_or, Bool.or_false, Bool.false_or, q_mul a1, q_mul a2, q_mul b1, e]
theorem mulq_ok2 {tb : List Fi} {f m n k : Nat} {b : Bool} (h : tb[f]? = some (tMul m b)) (hm : Makes2 tb k m (n + n)) (hn : 0 < n) (h2 : n ≤ 10000) {p q : Int × Int} (hp : Sm n p) (hq : Sm n q) : callAt tb (k + 1) f [.d (rD p), .d (rD q)] = some (.d (rD (mulq p q)), [.d (rD p), .d (rD q)]) := by
  obtain ⟨a1, a2, a3, a4⟩ := sm_ok hn h2 hp hq
  have e := hm (p.1 * q.1) (p.2 * q.2) (red_mul hp.1 hq.1) (abs_mul hp.2.1 hq.2.1) (abs_mul hp.2.2 hq.2.2)
  rw [cS, h, bd]
  unfold tMul runF mulq
  unfold rD at *
  cases b <;> simp only [v_var, v_lit, v_op, v_tup, v_lst, v_and, v_or, v_ite, v_chain, v_call, v_comp, v_mut, v_met, vs_nil, vs_cons, x_asg, x_asgT, x_set, x_unp, x_par, x_aug, x_if, x_ifl, frzE_nil, frzE_cons, frzSl_un, frzSl_d, frzSl_own, x_whl, x_for, x_ret, x_retN, x_expr, x_brk, x_cont, x_pass, xs_nil, xs_cons, lockA, unlockA, evCond, rdAs, rdA, boolA, bd, frz, frzs, frzR, slA, slAs, refs, postA, keepA, keepAs, g_nm', g_tp', g_sb', gs_nil', gs_cons', isOwn, isSet, isLs, setAt, putN_eq, fr_d, fr_un, fr_own0, slT, asD, retT, n_nm, n_tp, n_tl, ns_nil, ns_cons, augF, augI, items, mutKeeps, mutF, pick, List.filterMap_cons, List.filterMap_nil, List.getElem?_cons_zero, List.getElem?_cons_succ, List.getElem?_nil, List.length_cons, List.length_nil, List.cons_append, List.nil_append, List.replicate, List.map_cons, List.map_nil, List.set_cons_zero, List.set_cons_succ, List.take_succ_cons, List.take_zero, Option.map_some, Nat.le_refl, Nat.zero_add, Nat.reduceAdd, Nat.reduceSub, Nat.reduceLeDiff, Nat.reduceEqDiff, if_true, if_false, Bool.false_eq_true, reduceIte, List.nodup_nil, List.nodup_cons, List.not_mem_nil, not_false_eq_true, and_true, true_and, List.mem_cons, or_false, or_self, forall_eq, forall_eq_or_imp,  Nat.le_add_left, Nat.zero_le, q_add, q_sub, q_neg, q_no, q_eq, q_ne, q_lt, q_le, q_gt, q_ge, q_toInt, q_abs, q_max2, q_lenL, q_lenS, q_lenT, q_ixL, q_ixT, q_ixS, q_isi_ii, q_isi_bi, q_isi_ib, q_isi_bb, q_isi_tt, q_isi_ll, q_isi_lt, q_isi_tl, q_isN_n, q_isN_t, q_isN_i, q_notN_n, q_notN_t, q_notN_i, q_eqS, q_neS, q_all, q_any, q_sum, q_tuple, q_listT, q_listL, q_idI, q_gcd, q_min2, q_isB, q_notB, Bool.not_true, Bool.not_false, Bool.not_not, at1_0, ixN1_0, at2_0, ixN2_0, at2_1, ixN2_1, at3_0, ixN3_0, at3_1, ixN3_1, at3_2, ixN3_2, at4_0, ixN4_0, at4_1, ixN4_1, at4_2, ixN4_2, at4_3, ixN4_3, at5_0, ixN5_0, at5_1, ixN5_1, at5_2, ixN5_2, at5_3, ixN5_3, at5_4, ixN5_4, at6_0, ixN6_0, at6_1, ixN6_1, at6_2, ixN6_2, at6_3, ixN6_3, at6_4, ixN6_4, at6_5, ixN6_5, ln0, ln1, ln2, ln3, ln4, ln5, ln6, ln7, ln8, ln9, ln10, ln11, ln12, ln13, ln14, ln15, ln16, ln17, ln18, ln19, ln20, ln21, ln22, ln23, ln24, nc0, nc1, nc2, nc3, nc4, nc5, nc6, nc7, nc8, nc9, nc10, nc11, nc12, nc13, nc14, nc15, nc16, false_imp_iff, implies_true, beq_self_eq_true, Int.reduceBEq, Int.reduceLT, Int.reduceLE, decide_true, decide_false, List.all_cons, List.all_nil, List.any_cons, List.any_nil, id_eq, Bool.and_true, Bool.true_and, Bool.and_false, Bool.false_and, Bool.or_true, Bool.true_or, Bool.or_false, Bool.false_or, q_mul a3, q_mul a2, e]
theorem wee_rD {p : Int × Int} {n : Nat} (h : Sm n p) (h0 : 0 < n) (h1 : n ≤ 1900) : wee (rD p) = true := by
  show (wee (.int p.1) && (wee (.int p.2) && true)) = true
  rw [wee_int h.2.1 h0 h1, wee_int h.2.2 h0 h1]; rfl
theorem ixr0 (p : Int × Int) : opF .ix [rD p, .int 0] = some (.d (.int p.1)) := rfl
theorem ixr1 (p : Int × Int) : opF .ix [rD p, .int 1] = some (.d (.int p.2)) := rfl
end Ev

set_option maxHeartbeats 40000000
/-! Ev, part Gr2: the steps of a grid, told; Euclid's way is short. -/
namespace Ev
open PySem Fs
variable {tb : List Fi}
abbrev Q4 := Int × Int × Int × Int
def nx4 (q : Q4) : Q4 := ((q.2.1 % q.2.2.2 * q.1 + q.2.2.1 % q.2.2.2) / q.2.2.2, q.2.2.2, (q.2.1 % q.2.2.2 * q.1 + q.2.2.1 % q.2.2.2) % q.2.2.2, q.2.1 % q.2.2.2)
def GQ (q : Q4) : Prop := Gr q.1 q.2.1 q.2.2.1 q.2.2.2
/-- the steps, at most so many and one -/
def St : Nat → Q4 → List Q4
  | 0, q => [q]
  | j + 1, q => q :: if 0 < (nx4 q).1 then St j (nx4 q) else []
def fibP : Nat → Int × Int
  | 0 => (0, 1)
  | n + 1 => ((fibP n).2, (fibP n).1 + (fibP n).2)
def fibI (n : Nat) : Int := (fibP n).1
theorem fib_next (n : Nat) : fibI (n + 2) = fibI n + fibI (n + 1) := rfl
/-- the steps end within so many -/
def Ends : Nat → Q4 → Prop
  | 0, q => ¬ 0 < (nx4 q).1
  | j + 1, q => 0 < (nx4 q).1 → Ends j (nx4 q)
theorem gq_next {q : Q4} (g : GQ q) (hr : 0 < (nx4 q).1) : GQ (nx4 q) ∧ FS q.2.1 q.2.2.1 q.2.2.2 q.1.toNat = psum q + FS (nx4 q).2.1 (nx4 q).2.2.1 (nx4 q).2.2.2 (nx4 q).1.toNat := by
  obtain ⟨h1, h2, _⟩ := next_ok g hr
  exact ⟨h1, h2⟩
theorem gq_last {q : Q4} (g : GQ q) (hr : ¬ 0 < (nx4 q).1) : FS q.2.1 q.2.2.1 q.2.2.2 q.1.toNat = psum q := last_ok g hr
theorem rise_pos {q : Q4} (g : GQ q) (hr : 0 < (nx4 q).1) : 0 < q.2.1 % q.2.2.2 := (gq_next g hr).1.m0
theorem fib_pos : ∀ n : Nat, 0 ≤ fibI n ∧ 0 < fibI (n + 1)
  | 0 => ⟨by decide, by decide⟩
  | n + 1 => by
    obtain ⟨a, b⟩ := fib_pos n
    exact ⟨by omega, by rw [fib_next]; omega⟩
theorem ends_fib : ∀ (j : Nat) {q : Q4}, GQ q → (q.2.1 % q.2.2.2 < fibI (j + 2) ∨ q.2.2.2 < fibI (j + 3)) → Ends j q
  | 0, q, g, h => by
    intro hr
    have := rise_pos g hr
    have r2 := Int.emod_lt_of_pos q.2.1 g.m0
    have e1 : fibI (0 + 2) = 1 := by decide
    have e2 : fibI (0 + 3) = 2 := by decide
    rw [e1, e2] at h
    omega
  | j + 1, q, g, h => by
    intro hr
    have r1 := rise_pos g hr
    have r2 := Int.emod_lt_of_pos q.2.1 g.m0
    refine ends_fib j (gq_next g hr).1 ?_
    show q.2.2.2 % (q.2.1 % q.2.2.2) < fibI (j + 2) ∨ q.2.1 % q.2.2.2 < fibI (j + 3)
    rcases h with h | h
    · exact .inr h
    · by_cases k : q.2.1 % q.2.2.2 < fibI (j + 3)
      · exact .inr k
      · left
        have f := fib_next (j + 2)
        obtain ⟨e1, e2, e3⟩ := dv_eq q.2.2.2 r1
        have q1 : 1 ≤ q.2.2.2 / (q.2.1 % q.2.2.2) := Int.le_ediv_of_mul_le r1 (by omega)
        have q2 : q.2.1 % q.2.2.2 * 1 ≤ q.2.1 % q.2.2.2 * (q.2.2.2 / (q.2.1 % q.2.2.2)) := Int.mul_le_mul_of_nonneg_left q1 (by omega)
        have f' : fibI (j + 1 + 3) = fibI (j + 2) + fibI (j + 3) := f
        omega
theorem st_len : ∀ (j : Nat) (q : Q4), 0 < (St j q).length ∧ (St j q).length ≤ j + 1
  | 0, q => by simp [St]
  | j + 1, q => by
    rw [St]
    have := st_len j (nx4 q)
    split <;> simp <;> omega
theorem st_head (j : Nat) (q : Q4) : ∃ r, St j q = q :: r := by
  cases j with
  | zero => exact ⟨[], rfl⟩
  | succ j => exact ⟨_, rfl⟩
theorem st_gq : ∀ (j : Nat) {q : Q4}, GQ q → ∀ x ∈ St j q, GQ x
  | 0, q, g, x, hx => by rw [St, List.mem_singleton] at hx; rw [hx]; exact g
  | j + 1, q, g, x, hx => by
    rw [St] at hx
    rcases List.mem_cons.mp hx with rfl | hx
    · exact g
    · split at hx
      · next hr => exact st_gq j (gq_next g hr).1 x hx
      · cases hx
theorem st_wide : ∀ (j : Nat) {q : Q4}, GQ q → ∀ x ∈ St j q, x.2.2.2 ≤ q.2.2.2
  | 0, q, g, x, hx => by rw [St, List.mem_singleton] at hx; rw [hx]; exact Int.le_refl _
  | j + 1, q, g, x, hx => by
    rw [St] at hx
    rcases List.mem_cons.mp hx with rfl | hx
    · exact Int.le_refl _
    · split at hx
      · next hr =>
        have h1 := st_wide j (gq_next g hr).1 x hx
        have h2 : (nx4 q).2.2.2 < q.2.2.2 := Int.emod_lt_of_pos _ g.m0
        omega
      · cases hx
theorem st_sum : ∀ (j : Nat) {q : Q4}, GQ q → Ends j q → ((St j q).map psum).sum = FS q.2.1 q.2.2.1 q.2.2.2 q.1.toNat
  | 0, q, g, e => by rw [St, gq_last g e]; simp
  | j + 1, q, g, e => by
    rw [St]
    split
    · next hr =>
      rw [List.map_cons, List.sum_cons, st_sum j (gq_next g hr).1 (e hr), (gq_next g hr).2]
    · next hr => rw [gq_last g hr]; simp
/-- neighbours in the row of steps -/
theorem st_pairs : ∀ (j : Nat) {q : Q4}, GQ q → ∀ p ∈ (St j q).zip (St j q).tail, GQ p.1 ∧ GQ p.2 ∧ p.2 = nx4 p.1 ∧ 0 < (nx4 p.1).1
  | 0, q, g, p, hp => by simp [St] at hp
  | j + 1, q, g, p, hp => by
    rw [St] at hp
    by_cases hr : 0 < (nx4 q).1
    · rw [if_pos hr] at hp
      obtain ⟨r, e⟩ := st_head j (nx4 q)
      have g2 := (gq_next g hr).1
      rw [List.tail_cons] at hp
      rw [e, List.zip_cons_cons] at hp
      rcases List.mem_cons.mp hp with rfl | hp
      · exact ⟨g, g2, rfl, hr⟩
      · refine st_pairs j g2 p ?_
        rw [e]
        exact hp
    · rw [if_neg hr] at hp
      simp at hp
theorem q_append {xs : List D} {x : D} (h : xs.length < line) : mutF .append xs [x] = some (.non, xs ++ [x]) := if_pos h
theorem steps_loop2 {t : Nat} (ht : tb[t]? = some tTurned) (k : Nat) (s0 : Sl) : ∀ (j : Nat) {q : Q4}, GQ q → Ends j q → ∀ (fu : Nat), j + 2 ≤ fu → ∀ pre : List D, pre.length + j + 1 < 5000 →
    whlN (testF (callAt tb (k + 1)) (.op .notN [(.var 2)])) (blockF (callAt tb (k + 1)) Fuel [.expr (.mut .append 1 [(.var 2)]), .asg (.nm 2) (.call t [false] [0] [(.var 2)])]) fu [s0, .own pre 0, .d (gD4 q)] = some (.nx [s0, .own (pre ++ (St j q).map gD4) 0, .d .non]) := by
  have test1 : ∀ (pre : List D) (q : Q4), testF (callAt tb (k + 1)) (.op .notN [(.var 2)]) [s0, .own pre 0, .d (gD4 q)] = some (true, [s0, .own pre 0, .d (gD4 q)]) := fun pre q => by
    unfold testF gD4 grid
    simp only [v_var, v_lit, v_op, v_tup, v_lst, v_and, v_or, v_ite, v_chain, v_call, v_comp, v_mut, v_met, vs_nil, vs_cons, x_asg, x_asgT, x_set, x_unp, x_par, x_aug, x_if, x_ifl, frzE_nil, frzE_cons, frzSl_un, frzSl_d, frzSl_own, x_whl, x_for, x_ret, x_retN, x_expr, x_brk, x_cont, x_pass, xs_nil, xs_cons, lockA, unlockA, evCond, rdAs, rdA, boolA, bd, frz, frzs, frzR, slA, slAs, refs, postA, keepA, keepAs, g_nm', g_tp', g_sb', gs_nil', gs_cons', isOwn, isSet, isLs, setAt, putN_eq, fr_d, fr_un, fr_own0, slT, asD, retT, n_nm, n_tp, n_tl, ns_nil, ns_cons, augF, augI, items, mutKeeps, mutF, pick, List.filterMap_cons, List.filterMap_nil, List.getElem?_cons_zero, List.getElem?_cons_succ, List.getElem?_nil, List.length_cons, List.length_nil, List.cons_append, List.nil_append, List.replicate, List.map_cons, List.map_nil, List.set_cons_zero, List.set_cons_succ, List.take_succ_cons, List.take_zero, Option.map_some, Nat.le_refl, Nat.zero_add, Nat.reduceAdd, Nat.reduceSub, Nat.reduceLeDiff, Nat.reduceEqDiff, if_true, if_false, Bool.false_eq_true, reduceIte, List.nodup_nil, List.nodup_cons, List.not_mem_nil, not_false_eq_true, and_true, true_and, List.mem_cons, or_false, or_self, forall_eq, forall_eq_or_imp,  Nat.le_add_left, Nat.zero_le, q_add, q_sub, q_neg, q_no, q_eq, q_ne, q_lt, q_le, q_gt, q_ge, q_toInt, q_abs, q_max2, q_lenL, q_lenS, q_lenT, q_ixL, q_ixT, q_ixS, q_isi_ii, q_isi_bi, q_isi_ib, q_isi_bb, q_isi_tt, q_isi_ll, q_isi_lt, q_isi_tl, q_isN_n, q_isN_t, q_isN_i, q_notN_n, q_notN_t, q_notN_i, q_eqS, q_neS, q_all, q_any, q_sum, q_tuple, q_listT, q_listL, q_idI, q_gcd, q_min2, q_isB, q_notB, Bool.not_true, Bool.not_false, Bool.not_not, at1_0, ixN1_0, at2_0, ixN2_0, at2_1, ixN2_1, at3_0, ixN3_0, at3_1, ixN3_1, at3_2, ixN3_2, at4_0, ixN4_0, at4_1, ixN4_1, at4_2, ixN4_2, at4_3, ixN4_3, at5_0, ixN5_0, at5_1, ixN5_1, at5_2, ixN5_2, at5_3, ixN5_3, at5_4, ixN5_4, at6_0, ixN6_0, at6_1, ixN6_1, at6_2, ixN6_2, at6_3, ixN6_3, at6_4, ixN6_4, at6_5, ixN6_5, ln0, ln1, ln2, ln3, ln4, ln5, ln6, ln7, ln8, ln9, ln10, ln11, ln12, ln13, ln14, ln15, ln16, ln17, ln18, ln19, ln20, ln21, ln22, ln23, ln24, nc0, nc1, nc2, nc3, nc4, nc5, nc6, nc7, nc8, nc9, nc10, nc11, nc12, nc13, nc14, nc15, nc16, false_imp_iff, implies_true, beq_self_eq_true, Int.reduceBEq, Int.reduceLT, Int.reduceLE, decide_true, decide_false, List.all_cons, List.all_nil, List.any_cons, List.any_nil, id_eq, Bool.and_true, Bool.true_and, Bool.and_false, Bool.false_and, Bool.or_true, Bool.true_or, Bool.or_false, Bool.false_or]
  have test0 : ∀ (pre : List D), testF (callAt tb (k + 1)) (.op .notN [(.var 2)]) [s0, .own pre 0, .d .non] = some (false, [s0, .own pre 0, .d .non]) := fun pre => by
    unfold testF
    simp only [v_var, v_lit, v_op, v_tup, v_lst, v_and, v_or, v_ite, v_chain, v_call, v_comp, v_mut, v_met, vs_nil, vs_cons, x_asg, x_asgT, x_set, x_unp, x_par, x_aug, x_if, x_ifl, frzE_nil, frzE_cons, frzSl_un, frzSl_d, frzSl_own, x_whl, x_for, x_ret, x_retN, x_expr, x_brk, x_cont, x_pass, xs_nil, xs_cons, lockA, unlockA, evCond, rdAs, rdA, boolA, bd, frz, frzs, frzR, slA, slAs, refs, postA, keepA, keepAs, g_nm', g_tp', g_sb', gs_nil', gs_cons', isOwn, isSet, isLs, setAt, putN_eq, fr_d, fr_un, fr_own0, slT, asD, retT, n_nm, n_tp, n_tl, ns_nil, ns_cons, augF, augI, items, mutKeeps, mutF, pick, List.filterMap_cons, List.filterMap_nil, List.getElem?_cons_zero, List.getElem?_cons_succ, List.getElem?_nil, List.length_cons, List.length_nil, List.cons_append, List.nil_append, List.replicate, List.map_cons, List.map_nil, List.set_cons_zero, List.set_cons_succ, List.take_succ_cons, List.take_zero, Option.map_some, Nat.le_refl, Nat.zero_add, Nat.reduceAdd, Nat.reduceSub, Nat.reduceLeDiff, Nat.reduceEqDiff, if_true, if_false, Bool.false_eq_true, reduceIte, List.nodup_nil, List.nodup_cons, List.not_mem_nil, not_false_eq_true, and_true, true_and, List.mem_cons, or_false, or_self, forall_eq, forall_eq_or_imp,  Nat.le_add_left, Nat.zero_le, q_add, q_sub, q_neg, q_no, q_eq, q_ne, q_lt, q_le, q_gt, q_ge, q_toInt, q_abs, q_max2, q_lenL, q_lenS, q_lenT, q_ixL, q_ixT, q_ixS, q_isi_ii, q_isi_bi, q_isi_ib, q_isi_bb, q_isi_tt, q_isi_ll, q_isi_lt, q_isi_tl, q_isN_n, q_isN_t, q_isN_i, q_notN_n, q_notN_t, q_notN_i, q_eqS, q_neS, q_all, q_any, q_sum, q_tuple, q_listT, q_listL, q_idI, q_gcd, q_min2, q_isB, q_notB, Bool.not_true, Bool.not_false, Bool.not_not, at1_0, ixN1_0, at2_0, ixN2_0, at2_1, ixN2_1, at3_0, ixN3_0, at3_1, ixN3_1, at3_2, ixN3_2, at4_0, ixN4_0, at4_1, ixN4_1, at4_2, ixN4_2, at4_3, ixN4_3, at5_0, ixN5_0, at5_1, ixN5_1, at5_2, ixN5_2, at5_3, ixN5_3, at5_4, ixN5_4, at6_0, ixN6_0, at6_1, ixN6_1, at6_2, ixN6_2, at6_3, ixN6_3, at6_4, ixN6_4, at6_5, ixN6_5, ln0, ln1, ln2, ln3, ln4, ln5, ln6, ln7, ln8, ln9, ln10, ln11, ln12, ln13, ln14, ln15, ln16, ln17, ln18, ln19, ln20, ln21, ln22, ln23, ln24, nc0, nc1, nc2, nc3, nc4, nc5, nc6, nc7, nc8, nc9, nc10, nc11, nc12, nc13, nc14, nc15, nc16, false_imp_iff, implies_true, beq_self_eq_true, Int.reduceBEq, Int.reduceLT, Int.reduceLE, decide_true, decide_false, List.all_cons, List.all_nil, List.any_cons, List.any_nil, id_eq, Bool.and_true, Bool.true_and, Bool.and_false, Bool.false_and, Bool.or_true, Bool.true_or, Bool.or_false, Bool.false_or]
  have blk : ∀ (pre : List D) {q : Q4}, GQ q → pre.length < 5000 → blockF (callAt tb (k + 1)) Fuel [.expr (.mut .append 1 [(.var 2)]), .asg (.nm 2) (.call t [false] [0] [(.var 2)])] [s0, .own pre 0, .d (gD4 q)] =
      some (.nx [s0, .own (pre ++ [gD4 q]) 0, .d (if 0 < (nx4 q).1 then gD4 (nx4 q) else .non)]) := fun pre {q} g hl => by
    have hl2 : pre.length < line := Nat.lt_trans hl (by decide)
    have e : callAt tb (k + 1) t [.d (gD4 q)] = some (.d (if 0 < (nx4 q).1 then gD4 (nx4 q) else .non), [.d (gD4 q)]) := turned_ok ht k g
    unfold blockF
    simp only [v_var, v_lit, v_op, v_tup, v_lst, v_and, v_or, v_ite, v_chain, v_call, v_comp, v_mut, v_met, vs_nil, vs_cons, x_asg, x_asgT, x_set, x_unp, x_par, x_aug, x_if, x_ifl, frzE_nil, frzE_cons, frzSl_un, frzSl_d, frzSl_own, x_whl, x_for, x_ret, x_retN, x_expr, x_brk, x_cont, x_pass, xs_nil, xs_cons, lockA, unlockA, evCond, rdAs, rdA, boolA, bd, frz, frzs, frzR, slA, slAs, refs, postA, keepA, keepAs, g_nm', g_tp', g_sb', gs_nil', gs_cons', isOwn, isSet, isLs, setAt, putN_eq, fr_d, fr_un, fr_own0, slT, asD, retT, n_nm, n_tp, n_tl, ns_nil, ns_cons, augF, augI, items, mutKeeps, mutF, pick, List.filterMap_cons, List.filterMap_nil, List.getElem?_cons_zero, List.getElem?_cons_succ, List.getElem?_nil, List.length_cons, List.length_nil, List.cons_append, List.nil_append, List.replicate, List.map_cons, List.map_nil, List.set_cons_zero, List.set_cons_succ, List.take_succ_cons, List.take_zero, Option.map_some, Nat.le_refl, Nat.zero_add, Nat.reduceAdd, Nat.reduceSub, Nat.reduceLeDiff, Nat.reduceEqDiff, if_true, if_false, Bool.false_eq_true, reduceIte, List.nodup_nil, List.nodup_cons, List.not_mem_nil, not_false_eq_true, and_true, true_and, List.mem_cons, or_false, or_self, forall_eq, forall_eq_or_imp,  Nat.le_add_left, Nat.zero_le, q_add, q_sub, q_neg, q_no, q_eq, q_ne, q_lt, q_le, q_gt, q_ge, q_toInt, q_abs, q_max2, q_lenL, q_lenS, q_lenT, q_ixL, q_ixT, q_ixS, q_isi_ii, q_isi_bi, q_isi_ib, q_isi_bb, q_isi_tt, q_isi_ll, q_isi_lt, q_isi_tl, q_isN_n, q_isN_t, q_isN_i, q_notN_n, q_notN_t, q_notN_i, q_eqS, q_neS, q_all, q_any, q_sum, q_tuple, q_listT, q_listL, q_idI, q_gcd, q_min2, q_isB, q_notB, Bool.not_true, Bool.not_false, Bool.not_not, at1_0, ixN1_0, at2_0, ixN2_0, at2_1, ixN2_1, at3_0, ixN3_0, at3_1, ixN3_1, at3_2, ixN3_2, at4_0, ixN4_0, at4_1, ixN4_1, at4_2, ixN4_2, at4_3, ixN4_3, at5_0, ixN5_0, at5_1, ixN5_1, at5_2, ixN5_2, at5_3, ixN5_3, at5_4, ixN5_4, at6_0, ixN6_0, at6_1, ixN6_1, at6_2, ixN6_2, at6_3, ixN6_3, at6_4, ixN6_4, at6_5, ixN6_5, ln0, ln1, ln2, ln3, ln4, ln5, ln6, ln7, ln8, ln9, ln10, ln11, ln12, ln13, ln14, ln15, ln16, ln17, ln18, ln19, ln20, ln21, ln22, ln23, ln24, nc0, nc1, nc2, nc3, nc4, nc5, nc6, nc7, nc8, nc9, nc10, nc11, nc12, nc13, nc14, nc15, nc16, false_imp_iff, implies_true, beq_self_eq_true, Int.reduceBEq, Int.reduceLT, Int.reduceLE, decide_true, decide_false, List.all_cons, List.all_nil, List.any_cons, List.any_nil, id_eq, Bool.and_true, Bool.true_and, Bool.and_false, Bool.false_and, Bool.or_true, Bool.true_or, Bool.or_false, Bool.false_or, hl2, e]
  intro j
  induction j with
  | zero =>
    intro q g h fu hf pre hp
    obtain ⟨f, rfl⟩ : ∃ f, fu = f + 2 := ⟨fu - 2, by omega⟩
    have h' : ¬ 0 < (nx4 q).1 := h
    rw [whl_true (test1 ..) (blk pre g (by omega)), if_neg h', whl_false (test0 ..)]
    rfl
  | succ j ih =>
    intro q g h fu hf pre hp
    obtain ⟨f, rfl⟩ : ∃ f, fu = f + 2 := ⟨fu - 2, by omega⟩
    rw [whl_true (test1 ..) (blk pre g (by omega)), St]
    by_cases hr : 0 < (nx4 q).1
    · rw [if_pos hr, if_pos hr, ih (gq_next g hr).1 (h hr) (f + 1) (by omega) (pre ++ [gD4 q]) (by rw [List.length_append, List.length_singleton]; omega), List.append_assoc]
      rfl
    · rw [if_neg hr, if_neg hr, whl_false (test0 ..)]
      rfl
theorem steps_ok2 {t s : Nat} (ht : tb[t]? = some tTurned) (hs : tb[s]? = some (tSteps t)) (k : Nat) {q : Q4} (g : GQ q) {j : Nat} (hj : j < 1000) (h : Ends j q) :
    callAt tb (k + 2) s [.d (gD4 q)] = some (.fr ((St j q).map gD4), [.d (gD4 q)]) := by
  have h1 := steps_loop2 ht k (.d (gD4 q)) j g h Fuel (by have := fuel_ge; omega) [] (by simp; omega)
  rw [cS, hs, bd]
  unfold tSteps runF
  simp only [v_var, v_lit, v_op, v_tup, v_lst, v_and, v_or, v_ite, v_chain, v_call, v_comp, v_mut, v_met, vs_nil, vs_cons, x_asg, x_asgT, x_set, x_unp, x_par, x_aug, x_if, x_ifl, frzE_nil, frzE_cons, frzSl_un, frzSl_d, frzSl_own, x_whl, x_for, x_ret, x_retN, x_expr, x_brk, x_cont, x_pass, xs_nil, xs_cons, lockA, unlockA, evCond, rdAs, rdA, boolA, bd, frz, frzs, frzR, slA, slAs, refs, postA, keepA, keepAs, g_nm', g_tp', g_sb', gs_nil', gs_cons', isOwn, isSet, isLs, setAt, putN_eq, fr_d, fr_un, fr_own0, slT, asD, retT, n_nm, n_tp, n_tl, ns_nil, ns_cons, augF, augI, items, mutKeeps, mutF, pick, List.filterMap_cons, List.filterMap_nil, List.getElem?_cons_zero, List.getElem?_cons_succ, List.getElem?_nil, List.length_cons, List.length_nil, List.cons_append, List.nil_append, List.replicate, List.map_cons, List.map_nil, List.set_cons_zero, List.set_cons_succ, List.take_succ_cons, List.take_zero, Option.map_some, Nat.le_refl, Nat.zero_add, Nat.reduceAdd, Nat.reduceSub, Nat.reduceLeDiff, Nat.reduceEqDiff, if_true, if_false, Bool.false_eq_true, reduceIte, List.nodup_nil, List.nodup_cons, List.not_mem_nil, not_false_eq_true, and_true, true_and, List.mem_cons, or_false, or_self, forall_eq, forall_eq_or_imp,  Nat.le_add_left, Nat.zero_le, q_add, q_sub, q_neg, q_no, q_eq, q_ne, q_lt, q_le, q_gt, q_ge, q_toInt, q_abs, q_max2, q_lenL, q_lenS, q_lenT, q_ixL, q_ixT, q_ixS, q_isi_ii, q_isi_bi, q_isi_ib, q_isi_bb, q_isi_tt, q_isi_ll, q_isi_lt, q_isi_tl, q_isN_n, q_isN_t, q_isN_i, q_notN_n, q_notN_t, q_notN_i, q_eqS, q_neS, q_all, q_any, q_sum, q_tuple, q_listT, q_listL, q_idI, q_gcd, q_min2, q_isB, q_notB, Bool.not_true, Bool.not_false, Bool.not_not, at1_0, ixN1_0, at2_0, ixN2_0, at2_1, ixN2_1, at3_0, ixN3_0, at3_1, ixN3_1, at3_2, ixN3_2, at4_0, ixN4_0, at4_1, ixN4_1, at4_2, ixN4_2, at4_3, ixN4_3, at5_0, ixN5_0, at5_1, ixN5_1, at5_2, ixN5_2, at5_3, ixN5_3, at5_4, ixN5_4, at6_0, ixN6_0, at6_1, ixN6_1, at6_2, ixN6_2, at6_3, ixN6_3, at6_4, ixN6_4, at6_5, ixN6_5, ln0, ln1, ln2, ln3, ln4, ln5, ln6, ln7, ln8, ln9, ln10, ln11, ln12, ln13, ln14, ln15, ln16, ln17, ln18, ln19, ln20, ln21, ln22, ln23, ln24, nc0, nc1, nc2, nc3, nc4, nc5, nc6, nc7, nc8, nc9, nc10, nc11, nc12, nc13, nc14, nc15, nc16, false_imp_iff, implies_true, beq_self_eq_true, Int.reduceBEq, Int.reduceLT, Int.reduceLE, decide_true, decide_false, List.all_cons, List.all_nil, List.any_cons, List.any_nil, id_eq, Bool.and_true, Bool.true_and, Bool.and_false, Bool.false_and, Bool.or_true, Bool.true_or, Bool.or_false, Bool.false_or, h1]
/-- rightness of a grid, told by any value's look -/
def gOk : D → Bool
  | .tup [.int n, .int a, .int b, .int m] => decide (0 ≤ n) && (decide (0 ≤ a) && (decide (0 ≤ b) && (decide (0 ≤ m) && decide (0 < m))))
  | _ => false
end Ev

set_option maxHeartbeats 40000000
/-! Ev, part Ln: lines, their sums, marks. -/
namespace Ev
open PySem Ra Fs
def tRatioRight (i : Nat) : Fi := ⟨1, 2, [
  .ifs (.or (.op .no [(.op (.isi [.tuple]) [(.var 0)])]) (.or (.op .ne [(.op .len [(.var 0)]), (.lit (.int 2))]) (.op .no [(.op .all [(.comp (.call i [true] [0] [(.var 1)]) (.nm 1) .seq [(.var 0)] [] [1])])]))) [.ret (.lit (.bl false))] [],
  .ret (.and (.op .ge [(.op .ix [(.var 0), (.lit (.int 1))]), (.lit (.int 1))]) (.op .eq [(.op .gcd [(.op .ix [(.var 0), (.lit (.int 0))]), (.op .ix [(.var 0), (.lit (.int 1))])]), (.lit (.int 1))]))]⟩
def tIsRatio (r : Nat) : Fi := ⟨1, 1, [
  .ret (.call r [true] [0] [(.var 0)])]⟩
def tLineRight (r l : Nat) : Fi := ⟨1, 2, [
  .ifs (.or (.op .no [(.op (.isi [.tuple]) [(.var 0)])]) (.or (.op .ne [(.op .len [(.var 0)]), (.lit (.int 3))]) (.or (.op .no [(.op (.isi [.str]) [(.op .ix [(.var 0), (.lit (.int 0))])])]) (.op .ne [(.op .ix [(.var 0), (.lit (.int 0))]), (.lit (.str "line"))])))) [.ret (.lit (.bl false))] [],
  .ifs (.op .no [(.op .all [(.comp (.and (.call r [true] [0] [(.var 1)]) (.and (.op .le [(.lit (.int 0)), (.op .ix [(.var 1), (.lit (.int 0))])]) (.op .le [(.op .ix [(.var 1), (.lit (.int 1))]), (.lit (.int 1000000))]))) (.nm 1) .seq [(.op (.sl true false) [(.var 0), (.op .idI [(.lit (.int 1))])])] [] [1])])]) [.ret (.lit (.bl false))] [],
  .ret (.and (.op .no [(.call l [true, true] [0, 1] [(.lit (.tup [.int 1, .int 1])), (.op .ix [(.var 0), (.lit (.int 1))])])]) (.call l [true, true] [0, 1] [(.op .ix [(.var 0), (.lit (.int 2))]), (.lit (.tup [.int 1, .int 1]))]))]⟩
def tSumBy : Fi := ⟨2, 6, [
  .par [(.n (.tp [(.nm 2), (.nm 3)])), (.n (.tp [(.nm 4), (.nm 5)]))] [(.op .ix [(.var 0), (.lit (.int 1))]), (.op .ix [(.var 0), (.lit (.int 2))])],
  .ret (.op .fdiv [(.op .toInt [(.op .add [(.op .mul [(.op .mul [(.var 1), (.var 2)]), (.var 5)]), (.op .mul [(.var 4), (.var 3)])])]), (.op .mul [(.var 3), (.var 5)])])]⟩
def tCheckLine (r : Nat) : Fi := ⟨1, 1, [
  .ifs (.op .no [(.call r [true] [0] [(.var 0)])]) [.never] []]⟩
/-- a line -/
def lnD (p q : Int × Int) : D := .tup [.str "line", rD p, rD q]
structure Ln (p q : Int × Int) : Prop where
  rp : Red p
  rq : Red q
  p0 : 0 ≤ p.1
  p1 : p.1 ≤ p.2
  p2 : p.2 ≤ 1000000
  q0 : 0 ≤ q.1
  q1 : q.1 < q.2
  q2 : q.2 ≤ 1000000
variable {tb : List Fi}
theorem ratioRight_ok {i f : Nat} (hi : tb[i]? = some tIsInt) (h : tb[f]? = some (tRatioRight i)) (k : Nat) {p : Int × Int} (hp : Red p) : callAt tb (k + 2) f [.d (rD p)] = some (.d (.bl true), [.d (rD p)]) := by
  have cc := fun j => isInt_ok hi k j
  have w1 : wkL .seq [.tup [.int p.1, .int p.2]] = some [.int p.1, .int p.2] := rfl
  have bs : boolsD [.bl true, .bl true] = some [true, true] := rfl
  have h1 : decide ((1 : Int) ≤ p.2) = true := decide_eq_true (by have := hp.1; omega)
  have h2 : (((Nat.gcd p.1.natAbs p.2.natAbs : Nat) : Int) == 1) = true := by
    rw [beq_iff_eq]
    have : Int.gcd p.1 p.2 = 1 := hp.2
    have e : Nat.gcd p.1.natAbs p.2.natAbs = 1 := this
    rw [e]; rfl
  rw [cS, h, bd]
  unfold tRatioRight runF rD
  simp only [v_var, v_lit, v_op, v_tup, v_lst, v_and, v_or, v_ite, v_chain, v_call, v_comp, v_mut, v_met, vs_nil, vs_cons, x_asg, x_asgT, x_set, x_unp, x_par, x_aug, x_if, x_ifl, frzE_nil, frzE_cons, frzSl_un, frzSl_d, frzSl_own, x_whl, x_for, x_ret, x_retN, x_expr, x_brk, x_cont, x_pass, xs_nil, xs_cons, lockA, unlockA, evCond, rdAs, rdA, boolA, bd, frz, frzs, frzR, slA, slAs, refs, postA, keepA, keepAs, g_nm', g_tp', g_sb', gs_nil', gs_cons', isOwn, isSet, isLs, setAt, putN_eq, fr_d, fr_un, fr_own0, slT, asD, retT, n_nm, n_tp, n_tl, ns_nil, ns_cons, augF, augI, items, mutKeeps, mutF, pick, List.filterMap_cons, List.filterMap_nil, List.getElem?_cons_zero, List.getElem?_cons_succ, List.getElem?_nil, List.length_cons, List.length_nil, List.cons_append, List.nil_append, List.replicate, List.map_cons, List.map_nil, List.set_cons_zero, List.set_cons_succ, List.take_succ_cons, List.take_zero, Option.map_some, Nat.le_refl, Nat.zero_add, Nat.reduceAdd, Nat.reduceSub, Nat.reduceLeDiff, Nat.reduceEqDiff, if_true, if_false, Bool.false_eq_true, reduceIte, List.nodup_nil, List.nodup_cons, List.not_mem_nil, not_false_eq_true, and_true, true_and, List.mem_cons, or_false, or_self, forall_eq, forall_eq_or_imp,  Nat.le_add_left, Nat.zero_le, q_add, q_sub, q_neg, q_no, q_eq, q_ne, q_lt, q_le, q_gt, q_ge, q_toInt, q_abs, q_max2, q_lenL, q_lenS, q_lenT, q_ixL, q_ixT, q_ixS, q_isi_ii, q_isi_bi, q_isi_ib, q_isi_bb, q_isi_tt, q_isi_ll, q_isi_lt, q_isi_tl, q_isN_n, q_isN_t, q_isN_i, q_notN_n, q_notN_t, q_notN_i, q_eqS, q_neS, q_all, q_any, q_sum, q_tuple, q_listT, q_listL, q_idI, q_gcd, q_min2, q_isB, q_notB, Bool.not_true, Bool.not_false, Bool.not_not, at1_0, ixN1_0, at2_0, ixN2_0, at2_1, ixN2_1, at3_0, ixN3_0, at3_1, ixN3_1, at3_2, ixN3_2, at4_0, ixN4_0, at4_1, ixN4_1, at4_2, ixN4_2, at4_3, ixN4_3, at5_0, ixN5_0, at5_1, ixN5_1, at5_2, ixN5_2, at5_3, ixN5_3, at5_4, ixN5_4, at6_0, ixN6_0, at6_1, ixN6_1, at6_2, ixN6_2, at6_3, ixN6_3, at6_4, ixN6_4, at6_5, ixN6_5, ln0, ln1, ln2, ln3, ln4, ln5, ln6, ln7, ln8, ln9, ln10, ln11, ln12, ln13, ln14, ln15, ln16, ln17, ln18, ln19, ln20, ln21, ln22, ln23, ln24, nc0, nc1, nc2, nc3, nc4, nc5, nc6, nc7, nc8, nc9, nc10, nc11, nc12, nc13, nc14, nc15, nc16, false_imp_iff, implies_true, beq_self_eq_true, Int.reduceBEq, Int.reduceLT, Int.reduceLE, decide_true, decide_false, List.all_cons, List.all_nil, List.any_cons, List.any_nil, id_eq, Bool.and_true, Bool.true_and, Bool.and_false, Bool.false_and, Bool.or_true, Bool.true_or, Bool.or_false, Bool.false_or, w1, compL, stepC, wipeE, backE, cc, bs, h1, h2]
theorem isRatio_ok {i r f : Nat} (hi : tb[i]? = some tIsInt) (hr : tb[r]? = some (tRatioRight i)) (h : tb[f]? = some (tIsRatio r)) (k : Nat) {p : Int × Int} (hp : Red p) : callAt tb (k + 3) f [.d (rD p)] = some (.d (.bl true), [.d (rD p)]) := by
  have e := ratioRight_ok hi hr k hp
  rw [cS, h, bd]
  unfold tIsRatio runF
  simp only [v_var, v_lit, v_op, v_tup, v_lst, v_and, v_or, v_ite, v_chain, v_call, v_comp, v_mut, v_met, vs_nil, vs_cons, x_asg, x_asgT, x_set, x_unp, x_par, x_aug, x_if, x_ifl, frzE_nil, frzE_cons, frzSl_un, frzSl_d, frzSl_own, x_whl, x_for, x_ret, x_retN, x_expr, x_brk, x_cont, x_pass, xs_nil, xs_cons, lockA, unlockA, evCond, rdAs, rdA, boolA, bd, frz, frzs, frzR, slA, slAs, refs, postA, keepA, keepAs, g_nm', g_tp', g_sb', gs_nil', gs_cons', isOwn, isSet, isLs, setAt, putN_eq, fr_d, fr_un, fr_own0, slT, asD, retT, n_nm, n_tp, n_tl, ns_nil, ns_cons, augF, augI, items, mutKeeps, mutF, pick, List.filterMap_cons, List.filterMap_nil, List.getElem?_cons_zero, List.getElem?_cons_succ, List.getElem?_nil, List.length_cons, List.length_nil, List.cons_append, List.nil_append, List.replicate, List.map_cons, List.map_nil, List.set_cons_zero, List.set_cons_succ, List.take_succ_cons, List.take_zero, Option.map_some, Nat.le_refl, Nat.zero_add, Nat.reduceAdd, Nat.reduceSub, Nat.reduceLeDiff, Nat.reduceEqDiff, if_true, if_false, Bool.false_eq_true, reduceIte, List.nodup_nil, List.nodup_cons, List.not_mem_nil, not_false_eq_true, and_true, true_and, List.mem_cons, or_false, or_self, forall_eq, forall_eq_or_imp,  Nat.le_add_left, Nat.zero_le, q_add, q_sub, q_neg, q_no, q_eq, q_ne, q_lt, q_le, q_gt, q_ge, q_toInt, q_abs, q_max2, q_lenL, q_lenS, q_lenT, q_ixL, q_ixT, q_ixS, q_isi_ii, q_isi_bi, q_isi_ib, q_isi_bb, q_isi_tt, q_isi_ll, q_isi_lt, q_isi_tl, q_isN_n, q_isN_t, q_isN_i, q_notN_n, q_notN_t, q_notN_i, q_eqS, q_neS, q_all, q_any, q_sum, q_tuple, q_listT, q_listL, q_idI, q_gcd, q_min2, q_isB, q_notB, Bool.not_true, Bool.not_false, Bool.not_not, at1_0, ixN1_0, at2_0, ixN2_0, at2_1, ixN2_1, at3_0, ixN3_0, at3_1, ixN3_1, at3_2, ixN3_2, at4_0, ixN4_0, at4_1, ixN4_1, at4_2, ixN4_2, at4_3, ixN4_3, at5_0, ixN5_0, at5_1, ixN5_1, at5_2, ixN5_2, at5_3, ixN5_3, at5_4, ixN5_4, at6_0, ixN6_0, at6_1, ixN6_1, at6_2, ixN6_2, at6_3, ixN6_3, at6_4, ixN6_4, at6_5, ixN6_5, ln0, ln1, ln2, ln3, ln4, ln5, ln6, ln7, ln8, ln9, ln10, ln11, ln12, ln13, ln14, ln15, ln16, ln17, ln18, ln19, ln20, ln21, ln22, ln23, ln24, nc0, nc1, nc2, nc3, nc4, nc5, nc6, nc7, nc8, nc9, nc10, nc11, nc12, nc13, nc14, nc15, nc16, false_imp_iff, implies_true, beq_self_eq_true, Int.reduceBEq, Int.reduceLT, Int.reduceLE, decide_true, decide_false, List.all_cons, List.all_nil, List.any_cons, List.any_nil, id_eq, Bool.and_true, Bool.true_and, Bool.and_false, Bool.false_and, Bool.or_true, Bool.true_or, Bool.or_false, Bool.false_or, e]
theorem lineRight_ok {r l f : Nat} (hl : tb[l]? = some tLt) (h : tb[f]? = some (tLineRight r l)) (k : Nat) (he : ∀ {p : Int × Int}, Red p → callAt tb (k + 3) r [.d (rD p)] = some (.d (.bl true), [.d (rD p)])) {p q : Int × Int} (hp : Ln p q) : callAt tb (k + 4) f [.d (lnD p q)] = some (.d (.bl true), [.d (lnD p q)]) := by
  have e1 := he hp.rp
  have e2 := he hp.rq
  have r1 : Red (1, 1) := ⟨by decide, by decide⟩
  obtain ⟨rp, rq, p0, p1, p2, q0, q1, q2⟩ := hp
  have b1 := rp.1
  have b2 := rq.1
  have s1 : Sm 30 (1, 1) := ⟨r1, by decide, by decide⟩
  have s2 : Sm 30 p := ⟨rp, by omega, by omega⟩
  have s3 : Sm 30 q := ⟨rq, by omega, by omega⟩
  have l1 := ltq_ok hl (k + 2) (n := 30) (by decide) (by decide) s1 s2
  have l2 := ltq_ok hl (k + 2) (n := 30) (by decide) (by decide) s3 s1
  have z1 : ltq (1, 1) p = false := decide_eq_false (show ¬ 1 * p.2 < p.1 * 1 by omega)
  have z2 : ltq q (1, 1) = true := decide_eq_true (show q.1 * 1 < 1 * q.2 by omega)
  rw [z1] at l1
  rw [z2] at l2
  have cu : cutD [.str "line", rD p, rD q] (some 1) none = [rD p, rD q] := rfl
  have i1 : opF .ix [rD p, .int 0] = some (.d (.int p.1)) := rfl
  have i2 : opF .ix [rD p, .int 1] = some (.d (.int p.2)) := rfl
  have i3 : opF .ix [rD q, .int 0] = some (.d (.int q.1)) := rfl
  have i4 : opF .ix [rD q, .int 1] = some (.d (.int q.2)) := rfl
  have bs : boolsD [.bl true, .bl true] = some [true, true] := rfl
  have u : D.tup [.int 1, .int 1] = rD (1, 1) := rfl
  have is : opF (.isi [.str]) [.str "line"] = some (.d (.bl true)) := rfl
  have ns : opF .ne [.str "line", .str "line"] = some (.d (.bl false)) := by
    rw [q_neS, beq_self_eq_true]; rfl
  rw [cS, h, bd]
  unfold tLineRight runF lnD
  rw [u]
  simp only [v_var, v_lit, v_op, v_tup, v_lst, v_and, v_or, v_ite, v_chain, v_call, v_comp, v_mut, v_met, vs_nil, vs_cons, x_asg, x_asgT, x_set, x_unp, x_par, x_aug, x_if, x_ifl, frzE_nil, frzE_cons, frzSl_un, frzSl_d, frzSl_own, x_whl, x_for, x_ret, x_retN, x_expr, x_brk, x_cont, x_pass, xs_nil, xs_cons, lockA, unlockA, evCond, rdAs, rdA, boolA, bd, frz, frzs, frzR, slA, slAs, refs, postA, keepA, keepAs, g_nm', g_tp', g_sb', gs_nil', gs_cons', isOwn, isSet, isLs, setAt, putN_eq, fr_d, fr_un, fr_own0, slT, asD, retT, n_nm, n_tp, n_tl, ns_nil, ns_cons, augF, augI, items, mutKeeps, mutF, pick, List.filterMap_cons, List.filterMap_nil, List.getElem?_cons_zero, List.getElem?_cons_succ, List.getElem?_nil, List.length_cons, List.length_nil, List.cons_append, List.nil_append, List.replicate, List.map_cons, List.map_nil, List.set_cons_zero, List.set_cons_succ, List.take_succ_cons, List.take_zero, Option.map_some, Nat.le_refl, Nat.zero_add, Nat.reduceAdd, Nat.reduceSub, Nat.reduceLeDiff, Nat.reduceEqDiff, if_true, if_false, Bool.false_eq_true, reduceIte, List.nodup_nil, List.nodup_cons, List.not_mem_nil, not_false_eq_true, and_true, true_and, List.mem_cons, or_false, or_self, forall_eq, forall_eq_or_imp,  Nat.le_add_left, Nat.zero_le, q_add, q_sub, q_neg, q_no, q_eq, q_ne, q_lt, q_le, q_gt, q_ge, q_toInt, q_abs, q_max2, q_lenL, q_lenS, q_lenT, q_ixL, q_ixT, q_ixS, q_isi_ii, q_isi_bi, q_isi_ib, q_isi_bb, q_isi_tt, q_isi_ll, q_isi_lt, q_isi_tl, q_isN_n, q_isN_t, q_isN_i, q_notN_n, q_notN_t, q_notN_i, q_eqS, q_neS, q_all, q_any, q_sum, q_tuple, q_listT, q_listL, q_idI, q_gcd, q_min2, q_isB, q_notB, Bool.not_true, Bool.not_false, Bool.not_not, at1_0, ixN1_0, at2_0, ixN2_0, at2_1, ixN2_1, at3_0, ixN3_0, at3_1, ixN3_1, at3_2, ixN3_2, at4_0, ixN4_0, at4_1, ixN4_1, at4_2, ixN4_2, at4_3, ixN4_3, at5_0, ixN5_0, at5_1, ixN5_1, at5_2, ixN5_2, at5_3, ixN5_3, at5_4, ixN5_4, at6_0, ixN6_0, at6_1, ixN6_1, at6_2, ixN6_2, at6_3, ixN6_3, at6_4, ixN6_4, at6_5, ixN6_5, ln0, ln1, ln2, ln3, ln4, ln5, ln6, ln7, ln8, ln9, ln10, ln11, ln12, ln13, ln14, ln15, ln16, ln17, ln18, ln19, ln20, ln21, ln22, ln23, ln24, nc0, nc1, nc2, nc3, nc4, nc5, nc6, nc7, nc8, nc9, nc10, nc11, nc12, nc13, nc14, nc15, nc16, false_imp_iff, implies_true, beq_self_eq_true, Int.reduceBEq, Int.reduceLT, Int.reduceLE, decide_true, decide_false, List.all_cons, List.all_nil, List.any_cons, List.any_nil, id_eq, Bool.and_true, Bool.true_and, Bool.and_false, Bool.false_and, Bool.or_true, Bool.true_or, Bool.or_false, Bool.false_or, q_slTFt, cu, wkS_t, compL, stepC, wipeE, backE, e1, e2, i1, i2, i3, i4, is, ns, bs, l1, l2, decide_eq_true p0, decide_eq_true q0, decide_eq_true p2, decide_eq_true q2]
/-- the sum of a line at a place -/
def lF (p q : Int × Int) (c : Int) : Int := (p.1 * q.2 * c + q.1 * p.2) / (p.2 * q.2)
theorem mul_bd {a b x y : Int} (a0 : 0 ≤ a) (b0 : 0 ≤ b) (ha : a ≤ x) (hb : b ≤ y) : 0 ≤ a * b ∧ a * b ≤ x * y := ⟨Int.mul_nonneg a0 b0, Int.mul_le_mul ha hb b0 (Int.le_trans a0 ha)⟩
theorem Ln.num {p q : Int × Int} (h : Ln p q) : 0 ≤ p.1 * q.2 ∧ p.1 * q.2 ≤ p.2 * q.2 ∧ 0 ≤ q.1 * p.2 ∧ q.1 * p.2 < p.2 * q.2 ∧ 0 < p.2 * q.2 ∧ p.2 * q.2 ≤ 1000000000000 := by
  obtain ⟨rp, rq, p0, p1, p2, q0, q1, q2⟩ := h
  have b1 := rp.1
  have b2 := rq.1
  have e : q.1 * p.2 < q.2 * p.2 := Int.mul_lt_mul_of_pos_right q1 b1
  have e2 : q.2 * p.2 = p.2 * q.2 := Int.mul_comm _ _
  refine ⟨Int.mul_nonneg p0 (by omega), Int.mul_le_mul_of_nonneg_right p1 (by omega), Int.mul_nonneg q0 (by omega), by omega, Int.mul_pos b1 b2, ?_⟩
  exact (mul_bd (a := p.2) (b := q.2) (by omega) (by omega) p2 q2).2
theorem sumBy_eq (p q : Int × Int) (c : Int) : (c * p.1 * q.2 + q.1 * p.2) / (p.2 * q.2) = lF p q c := by
  unfold lF
  rw [show c * p.1 * q.2 = p.1 * q.2 * c by grind]
theorem mul_ab {a b : Int} {m n : Nat} (h1 : a.natAbs < 2 ^ m) (h2 : b.natAbs < 2 ^ n) : (a * b).natAbs < 2 ^ (m + n) := by
  rw [Int.natAbs_mul, Nat.pow_add]
  exact Nat.mul_lt_mul'' h1 h2
theorem sumBy_ok {f : Nat} (h : tb[f]? = some tSumBy) (k : Nat) {p q : Int × Int} (hp : Ln p q) {c : Int} (hc : c.natAbs < 2 ^ 200) : callAt tb (k + 1) f [.d (lnD p q), .d (.int c)] = some (.d (.int (lF p q c)), [.d (lnD p q), .d (.int c)]) := by
  obtain ⟨_, _, _, _, m0, m1⟩ := hp.num
  obtain ⟨rp, rq, p0, p1, p2, q0, q1, q2⟩ := hp
  have b1 := rp.1
  have b2 := rq.1
  have x0 := mul_ab (m := 200) (n := 20) hc (b := p.1) (by omega)
  have x1 := q_mulB (a := c) (b := p.1) (by omega) (by omega)
  have x2 := q_mulB (a := c * p.1) (b := q.2) (by omega) (by omega)
  have x3 := q_mulB (a := q.1) (b := p.2) (by omega) (by omega)
  have x4 := q_mulB (a := p.2) (b := q.2) (by omega) (by omega)
  have x5 := q_divP (a := c * p.1 * q.2 + q.1 * p.2) (b := p.2 * q.2) m0 (by omega)
  rw [sumBy_eq] at x5
  rw [cS, h, bd]
  unfold tSumBy runF lnD rD
  simp only [v_var, v_lit, v_op, v_tup, v_lst, v_and, v_or, v_ite, v_chain, v_call, v_comp, v_mut, v_met, vs_nil, vs_cons, x_asg, x_asgT, x_set, x_unp, x_par, x_aug, x_if, x_ifl, frzE_nil, frzE_cons, frzSl_un, frzSl_d, frzSl_own, x_whl, x_for, x_ret, x_retN, x_expr, x_brk, x_cont, x_pass, xs_nil, xs_cons, lockA, unlockA, evCond, rdAs, rdA, boolA, bd, frz, frzs, frzR, slA, slAs, refs, postA, keepA, keepAs, g_nm', g_tp', g_sb', gs_nil', gs_cons', isOwn, isSet, isLs, setAt, putN_eq, fr_d, fr_un, fr_own0, slT, asD, retT, n_nm, n_tp, n_tl, ns_nil, ns_cons, augF, augI, items, mutKeeps, mutF, pick, List.filterMap_cons, List.filterMap_nil, List.getElem?_cons_zero, List.getElem?_cons_succ, List.getElem?_nil, List.length_cons, List.length_nil, List.cons_append, List.nil_append, List.replicate, List.map_cons, List.map_nil, List.set_cons_zero, List.set_cons_succ, List.take_succ_cons, List.take_zero, Option.map_some, Nat.le_refl, Nat.zero_add, Nat.reduceAdd, Nat.reduceSub, Nat.reduceLeDiff, Nat.reduceEqDiff, if_true, if_false, Bool.false_eq_true, reduceIte, List.nodup_nil, List.nodup_cons, List.not_mem_nil, not_false_eq_true, and_true, true_and, List.mem_cons, or_false, or_self, forall_eq, forall_eq_or_imp,  Nat.le_add_left, Nat.zero_le, q_add, q_sub, q_neg, q_no, q_eq, q_ne, q_lt, q_le, q_gt, q_ge, q_toInt, q_abs, q_max2, q_lenL, q_lenS, q_lenT, q_ixL, q_ixT, q_ixS, q_isi_ii, q_isi_bi, q_isi_ib, q_isi_bb, q_isi_tt, q_isi_ll, q_isi_lt, q_isi_tl, q_isN_n, q_isN_t, q_isN_i, q_notN_n, q_notN_t, q_notN_i, q_eqS, q_neS, q_all, q_any, q_sum, q_tuple, q_listT, q_listL, q_idI, q_gcd, q_min2, q_isB, q_notB, Bool.not_true, Bool.not_false, Bool.not_not, at1_0, ixN1_0, at2_0, ixN2_0, at2_1, ixN2_1, at3_0, ixN3_0, at3_1, ixN3_1, at3_2, ixN3_2, at4_0, ixN4_0, at4_1, ixN4_1, at4_2, ixN4_2, at4_3, ixN4_3, at5_0, ixN5_0, at5_1, ixN5_1, at5_2, ixN5_2, at5_3, ixN5_3, at5_4, ixN5_4, at6_0, ixN6_0, at6_1, ixN6_1, at6_2, ixN6_2, at6_3, ixN6_3, at6_4, ixN6_4, at6_5, ixN6_5, ln0, ln1, ln2, ln3, ln4, ln5, ln6, ln7, ln8, ln9, ln10, ln11, ln12, ln13, ln14, ln15, ln16, ln17, ln18, ln19, ln20, ln21, ln22, ln23, ln24, nc0, nc1, nc2, nc3, nc4, nc5, nc6, nc7, nc8, nc9, nc10, nc11, nc12, nc13, nc14, nc15, nc16, false_imp_iff, implies_true, beq_self_eq_true, Int.reduceBEq, Int.reduceLT, Int.reduceLE, decide_true, decide_false, List.all_cons, List.all_nil, List.any_cons, List.any_nil, id_eq, Bool.and_true, Bool.true_and, Bool.and_false, Bool.false_and, Bool.or_true, Bool.true_or, Bool.or_false, Bool.false_or, x1, x2, x3, x4, x5]
/-! ### plain facts on sums -/
section
variable {A B M : Int}
def lG (A B M c : Int) : Int := (A * c + B) / M
theorem lg_mono (hM : 0 < M) (hA : 0 ≤ A) {x y : Int} (h : x ≤ y) : lG A B M x ≤ lG A B M y := by
  unfold lG
  refine Int.ediv_le_ediv hM ?_
  have := Int.mul_le_mul_of_nonneg_left h hA
  omega
theorem lg_up (hM : 0 < M) (hA : A ≤ M) (x : Int) : lG A B M (x + 1) ≤ lG A B M x + 1 := by
  unfold lG
  have e : (A * x + B) / M + 1 = (A * x + B + M) / M := by rw [Int.add_ediv_of_dvd_right (Int.dvd_refl M), Int.ediv_self (by omega)]
  rw [e]
  refine Int.ediv_le_ediv hM ?_
  rw [Int.mul_add]; omega
theorem lg_step (hM : 0 < M) (h0 : 0 ≤ A) (hA : A ≤ M) (x : Int) : lG A B M (x + 1) = lG A B M x ∨ lG A B M (x + 1) = lG A B M x + 1 := by
  have := lg_mono (B := B) hM h0 (show x ≤ x + 1 by omega)
  have := lg_up (B := B) hM hA x
  omega
theorem lg_zero (hB : 0 ≤ B) (hM : B < M) : lG A B M 0 = 0 := by
  unfold lG
  rw [Int.mul_zero, Int.zero_add]
  exact Int.ediv_eq_zero_of_lt hB hM
/-- the place of a mark -/
def plc (A B M k : Int) : Int := 0 - (0 - ((k + 1) * M - B)) / A - 1
theorem plc_ok (hA : 0 < A) (hM : A ≤ M) (hB : B < M) {k : Int} (hk : 0 ≤ k) : 0 ≤ plc A B M k ∧ lG A B M (plc A B M k) = k ∧ lG A B M (plc A B M k + 1) = k + 1 := by
  have hM0 : 0 < M := by omega
  have X0 : 0 < (k + 1) * M - B := by
    have : 1 * M ≤ (k + 1) * M := Int.mul_le_mul_of_nonneg_right (by omega) (by omega)
    omega
  have d1 := Int.mul_ediv_add_emod (0 - ((k + 1) * M - B)) A
  have d2 := Int.emod_nonneg (0 - ((k + 1) * M - B)) (show A ≠ 0 by omega)
  have d3 := Int.emod_lt_of_pos (0 - ((k + 1) * M - B)) hA
  generalize hy : (0 - ((k + 1) * M - B)) / A = y at *
  have pe : plc A B M k = 0 - y - 1 := by unfold plc; rw [hy]
  rw [pe]
  have n1 : A * (0 - y - 1) = -(A * y) - A := by grind
  have n2 : A * (0 - y - 1 + 1) = -(A * y) := by grind
  have y0 : y < 0 := by
    rcases Int.lt_or_le y 0 with h | h
    · exact h
    · have := Int.mul_nonneg (show 0 ≤ A by omega) h
      omega
  have h1 : lG A B M (0 - y - 1) ≤ k := by
    have : lG A B M (0 - y - 1) < k + 1 := by
      unfold lG
      refine Int.ediv_lt_of_lt_mul hM0 ?_
      omega
    omega
  have h2 : k + 1 ≤ lG A B M (0 - y - 1 + 1) := by
    unfold lG
    refine Int.le_ediv_of_mul_le hM0 ?_
    omega
  have h3 := lg_up (B := B) hM0 hM (0 - y - 1)
  exact ⟨by omega, by omega, by omega⟩
theorem plc_le (hA : 0 < A) (hM : A ≤ M) (hB : B < M) (hB0 : 0 ≤ B) {k : Int} (hk : 0 ≤ k) : plc A B M k < (k + 1) * M := by
  obtain ⟨h0, h1, h2⟩ := plc_ok hA hM hB hk
  have hM0 : 0 < M := by omega
  generalize plc A B M k = x at *
  have a : lG A B M x < k + 1 := by omega
  unfold lG at a
  have b := Int.lt_mul_of_ediv_lt hM0 a
  have c : 1 * x ≤ A * x := Int.mul_le_mul_of_nonneg_right (by omega) h0
  omega
theorem plc_uniq (hM : 0 < M) (hA : 0 ≤ A) {x y k : Int} (h1 : lG A B M x = k) (h2 : lG A B M (x + 1) = k + 1) (h3 : lG A B M y = k) (h4 : lG A B M (y + 1) = k + 1) : x = y := by
  rcases Int.lt_trichotomy x y with h | h | h
  · have := lg_mono (B := B) hM hA (show x + 1 ≤ y by omega); omega
  · exact h
  · have := lg_mono (B := B) hM hA (show y + 1 ≤ x by omega); omega
theorem lf_lg (p q : Int × Int) (c : Int) : lF p q c = lG (p.1 * q.2) (q.1 * p.2) (p.2 * q.2) c := rfl
end
/-! ### marks in rows -/
section
variable {f : Nat → Int}
def mkb (f : Nat → Int) (i : Nat) : Bool := f (i + 1) - f i == 1
theorem nth_mark (hs : ∀ i, f (i + 1) = f i ∨ f (i + 1) = f i + 1) : ∀ (n c i x : Nat), ((List.range' c n).filter (mkb f))[i]? = some x → f x = f c + i ∧ f (x + 1) = f x + 1 ∧ c ≤ x ∧ x < c + n
  | 0, c, i, x, h => by simp at h
  | n + 1, c, i, x, h => by
    rw [List.range'_succ, List.filter_cons] at h
    split at h
    · next hm =>
      have hm : f (c + 1) - f c = 1 := by unfold mkb at hm; exact beq_iff_eq.mp hm
      cases i with
      | zero =>
        simp at h; subst h
        exact ⟨by simp, by omega, Nat.le_refl _, by omega⟩
      | succ i =>
        rw [List.getElem?_cons_succ] at h
        obtain ⟨a, b, d, e⟩ := nth_mark hs n (c + 1) i x h
        exact ⟨by omega, b, by omega, by omega⟩
    · next hm =>
      have hm : f (c + 1) - f c ≠ 1 := by unfold mkb at hm; intro e; exact hm (beq_iff_eq.mpr e)
      obtain ⟨a, b, d, e⟩ := nth_mark hs n (c + 1) i x h
      have := hs c
      exact ⟨by omega, b, by omega, by omega⟩
theorem sum_diff : ∀ (n c : Nat), ((List.range' c n).map fun i => f (i + 1) - f i).sum = f (c + n) - f c
  | 0, c => by simp
  | n + 1, c => by
    rw [List.range'_succ, List.map_cons, List.sum_cons, sum_diff n (c + 1)]
    rw [show c + 1 + n = c + (n + 1) by omega]; omega
/-- sums of sums -/
def SF (f : Nat → Int) (n : Nat) : Int := ((List.range n).map f).sum
theorem SF_succ (f : Nat → Int) (n : Nat) : SF f (n + 1) = SF f n + f n := by
  unfold SF
  rw [List.range_succ, List.map_append, List.sum_append]; simp
theorem sum_mark (h0 : f 0 = 0) (hs : ∀ i, f (i + 1) = f i ∨ f (i + 1) = f i + 1) : ∀ n : Nat, (((List.range n).filter (mkb f)).map fun i : Nat => (i : Int)).sum = n * f n - SF f (n + 1)
  | 0 => by
    rw [SF_succ]; simp [SF, h0]
  | n + 1 => by
    rw [List.range_succ, List.filter_append, List.map_append, List.sum_append, sum_mark h0 hs n, SF_succ f (n + 1)]
    have e : (((n + 1 : Nat) : Int)) * f (n + 1) = n * f (n + 1) + f (n + 1) := by grind
    rw [e]
    cases hm : mkb f n
    · have hm' : f (n + 1) - f n ≠ 1 := by intro z; unfold mkb at hm; rw [beq_iff_eq.mpr z] at hm; cases hm
      have : f (n + 1) = f n := by have := hs n; omega
      simp [hm, this]; omega
    · have hm' : f (n + 1) - f n = 1 := by unfold mkb at hm; exact beq_iff_eq.mp hm
      have : f (n + 1) = f n + 1 := by omega
      simp [hm, this]; grind
theorem FS_SF (A B M : Int) : ∀ n : Nat, FS A B M n = SF (fun i : Nat => lG A B M i) n
  | 0 => rfl
  | n + 1 => by rw [SF_succ, FS, FS_SF A B M n]; rfl
end
theorem rangeD_nat (c n : Nat) : rangeD (c : Int) n = (List.range' c n).map fun i : Nat => D.int i := by
  unfold rangeD
  rw [List.range'_eq_map_range, List.map_map]
  refine List.map_congr_left fun i _ => ?_
  show D.int _ = D.int _
  rw [Int.natCast_add]
end Ev

set_option maxHeartbeats 40000000
namespace Z
open PySem Ev Ra
theorem h0 : tb[0]? = some tIsInt := rfl
theorem h1 : tb[1]? = some (tRatioRight 0) := rfl
theorem h2 : tb[2]? = some (tIsRatio 1) := rfl
theorem h3 : tb[3]? = some t_neighbours_are_right_3 := rfl
theorem h4 : tb[4]? = some t_check_neighbours_4 := rfl
theorem h5 : tb[5]? = some t_shares_5 := rfl
theorem h6 : tb[6]? = some t_law_pot_6 := rfl
theorem h7 : tb[7]? = some t_law_draw_7 := rfl
theorem h8 : tb[8]? = some t_law_pick_8 := rfl
theorem h9 : tb[9]? = some t_law_low_9 := rfl
theorem h10 : tb[10]? = some t_law_below_10 := rfl
theorem h11 : tb[11]? = some t_law_neighbours_11 := rfl
theorem h12 : tb[12]? = some t_law_put_12 := rfl
theorem h13 : tb[13]? = some t_law_right_13 := rfl
theorem h14 : tb[14]? = some t_law_14 := rfl
def A9T0 : E := (.op .gt [(.var 4), (.lit (.int 0))])
def A9W0 : List S := [.par [(.n (.nm 3)), (.n (.nm 4))] [(.var 4), (.op .mod [(.op .toInt [(.var 3)]), (.var 4)])]]
def A94 : List S := []
def A93 : List S := .ret (.tup [(.op .fdiv [(.op .mul [(.var 2), (.var 0)]), (.var 3)]), (.op .fdiv [(.op .abs [(.var 1)]), (.var 3)])]) :: A94
def A92 : List S := .asg (.nm 2) (.ite (.op .gt [(.var 1), (.lit (.int 0))]) (.lit (.int 1)) (.op .neg [(.lit (.int 1))])) :: A93
def A91 : List S := .whl A9T0 A9W0 :: A92
def A90 : List S := .par [(.n (.nm 3)), (.n (.nm 4))] [(.op .abs [(.var 0)]), (.op .abs [(.var 1)])] :: A91
theorem A9_body : t_law_low_9.body = A90 := rfl
def A11L0 : List S := [.asg (.nm 5) (.tup [(.op .add [(.op .ix [(.var 3), (.lit (.int 0))]), (.op .ix [(.var 4), (.lit (.int 0))])]), (.op .add [(.op .ix [(.var 3), (.lit (.int 1))]), (.op .ix [(.var 4), (.lit (.int 1))])])]), .ifs (.op .eq [(.call 7 [true, true] [0, 1] [(.var 0), (.lit (.int 2))]), (.lit (.int 0))]) [.asg (.nm 3) (.var 5)] [.asg (.nm 4) (.var 5)]]
def A113 : List S := []
def A112 : List S := .ret (.tup [(.var 3), (.var 4)]) :: A113
def A111 : List S := .for (.nm 2) .range [(.var 1)] A11L0 :: A112
def A110 : List S := .par [(.n (.nm 3)), (.n (.nm 4))] [(.tup [(.lit (.int 0)), (.lit (.int 1))]), (.tup [(.lit (.int 1)), (.lit (.int 0))])] :: A111
theorem A11_body : t_law_neighbours_11.body = A110 := rfl
def RL0 : List S := [.asg (.nm 6) (.call 8 [true, true] [0, 1] [(.var 0), (.lst [(.lit (.int 4)), (.lit (.int 40)), (.op .pow [(.lit (.int 10)), (.lit (.int 9))])])]), .asg (.nm 7) (.tup [(.call 7 [true, true] [0, 1] [(.var 0), (.var 6)]), (.call 7 [true, true] [0, 1] [(.var 0), (.var 6)])]), .asg (.nm 7) (.ite (.op .eq [(.var 7), (.tup [(.lit (.int 0)), (.lit (.int 0))])]) (.tup [(.lit (.int 1)), (.lit (.int 0))]) (.ite (.op .gt [(.op .ix [(.var 7), (.lit (.int 1))]), (.lit (.int 0))]) (.call 9 [true, true] [0, 1] [(.op .ix [(.var 7), (.lit (.int 0))]), (.op .ix [(.var 7), (.lit (.int 1))])]) (.tup [(.lit (.int 1)), (.lit (.int 0))]))), .asg (.nm 8) (.call 12 [true, true, true, true] [0, 1, 2, 3] [(.var 4), (.var 5), (.op .ix [(.var 7), (.lit (.int 0))]), (.op .ix [(.var 7), (.lit (.int 1))])]), .ifs (.op .gt [(.op .ix [(.var 8), (.lit (.int 1))]), (.lit (.int 0))]) [.ifs (.or (.op .ne [(.var 8), (.call 9 [true, true] [0, 1] [(.op .ix [(.var 8), (.lit (.int 0))]), (.op .ix [(.var 8), (.lit (.int 1))])])]) (.op .ne [(.op .repr [(.lst [(.call 5 [true, true, true] [0, 1, 2] [(.var 4), (.var 5), (.var 8)]), (.call 5 [true, true, true] [2, 1, 0] [(.var 8), (.var 5), (.var 4)])])]), (.op .repr [(.lst [(.var 7), (.var 7)])])])) [.ret (.lit (.bl false))] [], .expr (.mut .append 1 [(.tup [(.var 8), (.var 7)])])] []]
def RL1 : List S := [.for (.tp [(.nm 10), (.nm 11)]) .seq [(.var 1)] [.ifs (.op .ne [(.call 10 [true, true] [0, 1] [(.var 8), (.var 10)]), (.op .lt [(.op .mul [(.op .ix [(.var 9), (.lit (.int 1))]), (.op .ix [(.var 11), (.lit (.int 0))])]), (.op .mul [(.op .ix [(.var 11), (.lit (.int 1))]), (.op .ix [(.var 9), (.lit (.int 0))])])])]) [.ret (.lit (.bl false))] []]]
def RL2 : List S := [.ifs (.and (.op .ge [(.op .ix [(.var 7), (.lit (.int 0))]), (.op .ix [(.var 7), (.lit (.int 1))])]) (.op .ne [(.call 5 [true, true, true] [0, 1, 2] [(.var 4), (.var 3), (.var 8)]), (.tup [(.op .sub [(.op .ix [(.var 7), (.lit (.int 0))]), (.op .ix [(.var 7), (.lit (.int 1))])]), (.op .ix [(.var 7), (.lit (.int 1))])])])) [.ret (.lit (.bl false))] [], .ifs (.and (.op .le [(.op .ix [(.var 7), (.lit (.int 0))]), (.op .ix [(.var 7), (.lit (.int 1))])]) (.op .ne [(.call 5 [true, true, true] [0, 1, 2] [(.var 3), (.var 5), (.var 8)]), (.tup [(.op .ix [(.var 7), (.lit (.int 0))]), (.op .sub [(.op .ix [(.var 7), (.lit (.int 1))]), (.op .ix [(.var 7), (.lit (.int 0))])])])])) [.ret (.lit (.bl false))] []]
def R8 : List S := []
def R7 : List S := .ret (.lit (.bl true)) :: R8
def R6 : List S := .for (.tp [(.nm 8), (.nm 7)]) .seq [(.var 1)] RL2 :: R7
def R5 : List S := .ifs (.or (.op .ne [(.call 5 [true, true, true] [0, 1, 2] [(.var 4), (.var 5), (.var 3)]), (.tup [(.lit (.int 1)), (.lit (.int 1))])]) (.op .ne [(.call 5 [true, true, true] [0, 1, 2] [(.var 4), (.var 5), (.var 4)]), (.tup [(.lit (.int 1)), (.lit (.int 0))])])) [.ret (.lit (.bl false))] [] :: R6
def R4 : List S := .asg (.nm 3) (.call 12 [true, true, true, true] [0, 1, 2, 3] [(.var 4), (.var 5), (.lit (.int 1)), (.lit (.int 1))]) :: R5
def R3 : List S := .for (.tp [(.nm 8), (.nm 9)]) .seq [(.var 1)] RL1 :: R4
def R2 : List S := .for (.nm 2) .range [(.lit (.int 6))] RL0 :: R3
def R1 : List S := .asg (.nm 1) (.lst []) :: R2
def R0 : List S := .asg (.tp [(.nm 4), (.nm 5)]) (.call 11 [true, true] [0, 1] [(.var 0), (.call 7 [true, true] [0, 1] [(.var 0), (.call 8 [true, true] [0, 1] [(.var 0), (.lst [(.lit (.int 3)), (.lit (.int 12)), (.lit (.int 40))])])])]) :: R1
theorem R_body : t_law_right_13.body = R0 := rfl
def A14K0 : E := (.call 13 [true] [0] [(.var 1)])
def A142 : List S := []
def A141 : List S := .ret (.op .all [(.comp A14K0 (.nm 2) .range [(.lit (.int 6))] [] [2])]) :: A142
def A140 : List S := .asg (.nm 1) (.call 6 [true, true] [0, 1] [(.var 0), (.lit (.int 0))]) :: A141
theorem A14_body : t_law_14.body = A140 := rfl
def Q5 : List S := []
def Q4 : List S := .ifs (.op .gt [(.op .ix [(.var 8), (.lit (.int 1))]), (.lit (.int 0))]) [.ifs (.or (.op .ne [(.var 8), (.call 9 [true, true] [0, 1] [(.op .ix [(.var 8), (.lit (.int 0))]), (.op .ix [(.var 8), (.lit (.int 1))])])]) (.op .ne [(.op .repr [(.lst [(.call 5 [true, true, true] [0, 1, 2] [(.var 4), (.var 5), (.var 8)]), (.call 5 [true, true, true] [2, 1, 0] [(.var 8), (.var 5), (.var 4)])])]), (.op .repr [(.lst [(.var 7), (.var 7)])])])) [.ret (.lit (.bl false))] [], .expr (.mut .append 1 [(.tup [(.var 8), (.var 7)])])] [] :: Q5
def Q3 : List S := .asg (.nm 8) (.call 12 [true, true, true, true] [0, 1, 2, 3] [(.var 4), (.var 5), (.op .ix [(.var 7), (.lit (.int 0))]), (.op .ix [(.var 7), (.lit (.int 1))])]) :: Q4
def Q2 : List S := .asg (.nm 7) (.ite (.op .eq [(.var 7), (.tup [(.lit (.int 0)), (.lit (.int 0))])]) (.tup [(.lit (.int 1)), (.lit (.int 0))]) (.ite (.op .gt [(.op .ix [(.var 7), (.lit (.int 1))]), (.lit (.int 0))]) (.call 9 [true, true] [0, 1] [(.op .ix [(.var 7), (.lit (.int 0))]), (.op .ix [(.var 7), (.lit (.int 1))])]) (.tup [(.lit (.int 1)), (.lit (.int 0))]))) :: Q3
def Q1 : List S := .asg (.nm 7) (.tup [(.call 7 [true, true] [0, 1] [(.var 0), (.var 6)]), (.call 7 [true, true] [0, 1] [(.var 0), (.var 6)])]) :: Q2
def Q0 : List S := .asg (.nm 6) (.call 8 [true, true] [0, 1] [(.var 0), (.lst [(.lit (.int 4)), (.lit (.int 40)), (.op .pow [(.lit (.int 10)), (.lit (.int 9))])])]) :: Q1
def V0 : List S := [.ifs (.op .ne [(.call 10 [true, true] [0, 1] [(.var 8), (.var 10)]), (.op .lt [(.op .mul [(.op .ix [(.var 9), (.lit (.int 1))]), (.op .ix [(.var 11), (.lit (.int 0))])]), (.op .mul [(.op .ix [(.var 11), (.lit (.int 1))]), (.op .ix [(.var 9), (.lit (.int 0))])])])]) [.ret (.lit (.bl false))] []]
def U0 : List S := [.for (.tp [(.nm 10), (.nm 11)]) .seq [(.var 1)] V0]
theorem RL0_eq : RL0 = Q0 := rfl
theorem RL1_eq : RL1 = U0 := rfl
def Y2 : List S := []
def Y1 : List S := .ifs (.and (.op .le [(.op .ix [(.var 7), (.lit (.int 0))]), (.op .ix [(.var 7), (.lit (.int 1))])]) (.op .ne [(.call 5 [true, true, true] [0, 1, 2] [(.var 3), (.var 5), (.var 8)]), (.tup [(.op .ix [(.var 7), (.lit (.int 0))]), (.op .sub [(.op .ix [(.var 7), (.lit (.int 1))]), (.op .ix [(.var 7), (.lit (.int 0))])])])])) [.ret (.lit (.bl false))] [] :: Y2
def Y0 : List S := .ifs (.and (.op .ge [(.op .ix [(.var 7), (.lit (.int 0))]), (.op .ix [(.var 7), (.lit (.int 1))])]) (.op .ne [(.call 5 [true, true, true] [0, 1, 2] [(.var 4), (.var 3), (.var 8)]), (.tup [(.op .sub [(.op .ix [(.var 7), (.lit (.int 0))]), (.op .ix [(.var 7), (.lit (.int 1))])]), (.op .ix [(.var 7), (.lit (.int 1))])])])) [.ret (.lit (.bl false))] [] :: Y1
theorem RL2_eq : RL2 = Y0 := rfl
/-! ### draws -/
theorem draw7 (k : Nat) {P : List D} (hP : PotOk P) {m : Int} (h1 : 0 < m) (h2 : m < 1073741824) :
    ∃ d P', PotOk P' ∧ 0 ≤ d ∧ d < m ∧ callAt tb (k + 1) 7 [.own P 1, .d (.int m)] = some (.d (.int d), [.own P' 1, .d (.int m)]) := by
  obtain ⟨a, b, rfl, hb0, hb1⟩ := hP
  by_cases h : 0 < a
  · have x1 := q_modP (a := a) (b := m) h1
    have x2 := q_divP (a := a) (b := m) h1 (by omega)
    refine ⟨a % m, [.int (a / m), .int b], ⟨_, _, rfl, hb0, hb1⟩, Int.emod_nonneg _ (by omega), Int.emod_lt_of_pos _ h1, ?_⟩
    rw [cS, h7, bd]
    unfold t_law_draw_7 runF
    simp only [v_var, v_lit, v_op, v_tup, v_lst, v_and, v_or, v_ite, v_chain, v_call, v_comp, v_mut, v_met, vs_nil, vs_cons, x_asg, x_asgT, x_set, x_unp, x_par, x_aug, x_if, x_ifl, frzE_nil, frzE_cons, frzSl_un, frzSl_d, frzSl_own, x_whl, x_for, x_ret, x_retN, x_expr, x_brk, x_cont, x_pass, xs_nil, xs_cons, lockA, unlockA, evCond, rdAs, rdA, boolA, bd, frz, frzs, frzR, slA, slAs, refs, postA, keepA, keepAs, g_nm', g_tp', g_sb', gs_nil', gs_cons', isOwn, isSet, isLs, setAt, putN_eq, fr_d, fr_un, fr_own0, slT, asD, retT, n_nm, n_tp, n_tl, ns_nil, ns_cons, augF, augI, items, mutKeeps, mutF, pick, List.filterMap_cons, List.filterMap_nil, List.getElem?_cons_zero, List.getElem?_cons_succ, List.getElem?_nil, List.length_cons, List.length_nil, List.cons_append, List.nil_append, List.replicate, List.map_cons, List.map_nil, List.set_cons_zero, List.set_cons_succ, List.take_succ_cons, List.take_zero, Option.map_some, Nat.le_refl, Nat.zero_add, Nat.reduceAdd, Nat.reduceSub, Nat.reduceLeDiff, Nat.reduceEqDiff, if_true, if_false, Bool.false_eq_true, reduceIte, List.nodup_nil, List.nodup_cons, List.not_mem_nil, not_false_eq_true, and_true, true_and, List.mem_cons, or_false, or_self, forall_eq, forall_eq_or_imp,  Nat.le_add_left, Nat.zero_le, q_add, q_sub, q_neg, q_no, q_eq, q_ne, q_lt, q_le, q_gt, q_ge, q_toInt, q_abs, q_max2, q_lenL, q_lenS, q_lenT, q_ixL, q_ixT, q_ixS, q_isi_ii, q_isi_bi, q_isi_ib, q_isi_bb, q_isi_tt, q_isi_ll, q_isi_lt, q_isi_tl, q_isN_n, q_isN_t, q_isN_i, q_notN_n, q_notN_t, q_notN_i, q_eqS, q_neS, q_all, q_any, q_sum, q_tuple, q_listT, q_listL, q_idI, q_gcd, q_min2, q_isB, q_notB, Bool.not_true, Bool.not_false, Bool.not_not, at1_0, ixN1_0, at2_0, ixN2_0, at2_1, ixN2_1, at3_0, ixN3_0, at3_1, ixN3_1, at3_2, ixN3_2, at4_0, ixN4_0, at4_1, ixN4_1, at4_2, ixN4_2, at4_3, ixN4_3, at5_0, ixN5_0, at5_1, ixN5_1, at5_2, ixN5_2, at5_3, ixN5_3, at5_4, ixN5_4, at6_0, ixN6_0, at6_1, ixN6_1, at6_2, ixN6_2, at6_3, ixN6_3, at6_4, ixN6_4, at6_5, ixN6_5, ln0, ln1, ln2, ln3, ln4, ln5, ln6, ln7, ln8, ln9, ln10, ln11, ln12, ln13, ln14, ln15, ln16, ln17, ln18, ln19, ln20, ln21, ln22, ln23, ln24, nc0, nc1, nc2, nc3, nc4, nc5, nc6, nc7, nc8, nc9, nc10, nc11, nc12, nc13, nc14, nc15, nc16, false_imp_iff, implies_true, beq_self_eq_true, Int.reduceBEq, Int.reduceLT, Int.reduceLE, decide_true, decide_false, List.all_cons, List.all_nil, List.any_cons, List.any_nil, id_eq, Bool.and_true, Bool.true_and, Bool.and_false, Bool.false_and, Bool.or_true, Bool.true_or, Bool.or_false, Bool.false_or, decide_eq_true h, x1, x2]
  · have x1 := q_mulB (a := b) (b := 39373) (by omega) (by decide)
    have x2 := q_modP (a := b * 39373 + 4261) (b := 2147483549) (by decide)
    have r0 := Int.emod_nonneg (b * 39373 + 4261) (show (2147483549 : Int) ≠ 0 by decide)
    have r1 := Int.emod_lt_of_pos (b * 39373 + 4261) (show (0 : Int) < 2147483549 by decide)
    generalize (b * 39373 + 4261) % 2147483549 = b' at *
    have x3 := q_mulB (a := b') (b := b') (by omega) (by omega)
    have x4 := q_modP (a := b' * b') (b := 2147483563) (by decide)
    have x5 := q_divP (a := b' * b' % 2147483563) (b := 19) (by decide) (by decide)
    have x6 := q_modP (a := b' * b' % 2147483563 / 19) (b := m) h1
    refine ⟨_, [.int a, .int b'], ⟨_, _, rfl, r0, by omega⟩, Int.emod_nonneg (b' * b' % 2147483563 / 19) (by omega), Int.emod_lt_of_pos _ h1, ?_⟩
    rw [cS, h7, bd]
    unfold t_law_draw_7 runF
    simp only [v_var, v_lit, v_op, v_tup, v_lst, v_and, v_or, v_ite, v_chain, v_call, v_comp, v_mut, v_met, vs_nil, vs_cons, x_asg, x_asgT, x_set, x_unp, x_par, x_aug, x_if, x_ifl, frzE_nil, frzE_cons, frzSl_un, frzSl_d, frzSl_own, x_whl, x_for, x_ret, x_retN, x_expr, x_brk, x_cont, x_pass, xs_nil, xs_cons, lockA, unlockA, evCond, rdAs, rdA, boolA, bd, frz, frzs, frzR, slA, slAs, refs, postA, keepA, keepAs, g_nm', g_tp', g_sb', gs_nil', gs_cons', isOwn, isSet, isLs, setAt, putN_eq, fr_d, fr_un, fr_own0, slT, asD, retT, n_nm, n_tp, n_tl, ns_nil, ns_cons, augF, augI, items, mutKeeps, mutF, pick, List.filterMap_cons, List.filterMap_nil, List.getElem?_cons_zero, List.getElem?_cons_succ, List.getElem?_nil, List.length_cons, List.length_nil, List.cons_append, List.nil_append, List.replicate, List.map_cons, List.map_nil, List.set_cons_zero, List.set_cons_succ, List.take_succ_cons, List.take_zero, Option.map_some, Nat.le_refl, Nat.zero_add, Nat.reduceAdd, Nat.reduceSub, Nat.reduceLeDiff, Nat.reduceEqDiff, if_true, if_false, Bool.false_eq_true, reduceIte, List.nodup_nil, List.nodup_cons, List.not_mem_nil, not_false_eq_true, and_true, true_and, List.mem_cons, or_false, or_self, forall_eq, forall_eq_or_imp,  Nat.le_add_left, Nat.zero_le, q_add, q_sub, q_neg, q_no, q_eq, q_ne, q_lt, q_le, q_gt, q_ge, q_toInt, q_abs, q_max2, q_lenL, q_lenS, q_lenT, q_ixL, q_ixT, q_ixS, q_isi_ii, q_isi_bi, q_isi_ib, q_isi_bb, q_isi_tt, q_isi_ll, q_isi_lt, q_isi_tl, q_isN_n, q_isN_t, q_isN_i, q_notN_n, q_notN_t, q_notN_i, q_eqS, q_neS, q_all, q_any, q_sum, q_tuple, q_listT, q_listL, q_idI, q_gcd, q_min2, q_isB, q_notB, Bool.not_true, Bool.not_false, Bool.not_not, at1_0, ixN1_0, at2_0, ixN2_0, at2_1, ixN2_1, at3_0, ixN3_0, at3_1, ixN3_1, at3_2, ixN3_2, at4_0, ixN4_0, at4_1, ixN4_1, at4_2, ixN4_2, at4_3, ixN4_3, at5_0, ixN5_0, at5_1, ixN5_1, at5_2, ixN5_2, at5_3, ixN5_3, at5_4, ixN5_4, at6_0, ixN6_0, at6_1, ixN6_1, at6_2, ixN6_2, at6_3, ixN6_3, at6_4, ixN6_4, at6_5, ixN6_5, ln0, ln1, ln2, ln3, ln4, ln5, ln6, ln7, ln8, ln9, ln10, ln11, ln12, ln13, ln14, ln15, ln16, ln17, ln18, ln19, ln20, ln21, ln22, ln23, ln24, nc0, nc1, nc2, nc3, nc4, nc5, nc6, nc7, nc8, nc9, nc10, nc11, nc12, nc13, nc14, nc15, nc16, false_imp_iff, implies_true, beq_self_eq_true, Int.reduceBEq, Int.reduceLT, Int.reduceLE, decide_true, decide_false, List.all_cons, List.all_nil, List.any_cons, List.any_nil, id_eq, Bool.and_true, Bool.true_and, Bool.and_false, Bool.false_and, Bool.or_true, Bool.true_or, Bool.or_false, Bool.false_or, decide_eq_false h, x1, x2, x3, x4, x5, x6]
theorem pick8 (k : Nat) {P : List D} (hP : PotOk P) {xs : List D} (h0 : 0 < xs.length) (h1 : xs.length < 1000) :
    ∃ x P', PotOk P' ∧ x ∈ xs ∧ callAt tb (k + 2) 8 [.own P 1, .own xs 0] = some (.d x, [.own P' 1, .own xs 0]) := by
  obtain ⟨N, hN⟩ : ∃ N : Int, N = (xs.length : Nat) := ⟨_, rfl⟩
  obtain ⟨d, P', hP', d0, d1, e⟩ := draw7 k hP (m := N) (by omega) (by omega)
  obtain ⟨x, a, hx⟩ := atI_int (xs := xs) (i := d) d0 (by omega)
  refine ⟨x, P', hP', hx, ?_⟩
  rw [cS, h8, bd]
  unfold t_law_pick_8 runF
  simp only [v_var, v_lit, v_op, v_tup, v_lst, v_and, v_or, v_ite, v_chain, v_call, v_comp, v_mut, v_met, vs_nil, vs_cons, x_asg, x_asgT, x_set, x_unp, x_par, x_aug, x_if, x_ifl, frzE_nil, frzE_cons, frzSl_un, frzSl_d, frzSl_own, x_whl, x_for, x_ret, x_retN, x_expr, x_brk, x_cont, x_pass, xs_nil, xs_cons, lockA, unlockA, evCond, rdAs, rdA, boolA, bd, frz, frzs, frzR, slA, slAs, refs, postA, keepA, keepAs, g_nm', g_tp', g_sb', gs_nil', gs_cons', isOwn, isSet, isLs, setAt, putN_eq, fr_d, fr_un, fr_own0, slT, asD, retT, n_nm, n_tp, n_tl, ns_nil, ns_cons, augF, augI, items, mutKeeps, mutF, pick, List.filterMap_cons, List.filterMap_nil, List.getElem?_cons_zero, List.getElem?_cons_succ, List.getElem?_nil, List.length_cons, List.length_nil, List.cons_append, List.nil_append, List.replicate, List.map_cons, List.map_nil, List.set_cons_zero, List.set_cons_succ, List.take_succ_cons, List.take_zero, Option.map_some, Nat.le_refl, Nat.zero_add, Nat.reduceAdd, Nat.reduceSub, Nat.reduceLeDiff, Nat.reduceEqDiff, if_true, if_false, Bool.false_eq_true, reduceIte, List.nodup_nil, List.nodup_cons, List.not_mem_nil, not_false_eq_true, and_true, true_and, List.mem_cons, or_false, or_self, forall_eq, forall_eq_or_imp,  Nat.le_add_left, Nat.zero_le, q_add, q_sub, q_neg, q_no, q_eq, q_ne, q_lt, q_le, q_gt, q_ge, q_toInt, q_abs, q_max2, q_lenL, q_lenS, q_lenT, q_ixL, q_ixT, q_ixS, q_isi_ii, q_isi_bi, q_isi_ib, q_isi_bb, q_isi_tt, q_isi_ll, q_isi_lt, q_isi_tl, q_isN_n, q_isN_t, q_isN_i, q_notN_n, q_notN_t, q_notN_i, q_eqS, q_neS, q_all, q_any, q_sum, q_tuple, q_listT, q_listL, q_idI, q_gcd, q_min2, q_isB, q_notB, Bool.not_true, Bool.not_false, Bool.not_not, at1_0, ixN1_0, at2_0, ixN2_0, at2_1, ixN2_1, at3_0, ixN3_0, at3_1, ixN3_1, at3_2, ixN3_2, at4_0, ixN4_0, at4_1, ixN4_1, at4_2, ixN4_2, at4_3, ixN4_3, at5_0, ixN5_0, at5_1, ixN5_1, at5_2, ixN5_2, at5_3, ixN5_3, at5_4, ixN5_4, at6_0, ixN6_0, at6_1, ixN6_1, at6_2, ixN6_2, at6_3, ixN6_3, at6_4, ixN6_4, at6_5, ixN6_5, ln0, ln1, ln2, ln3, ln4, ln5, ln6, ln7, ln8, ln9, ln10, ln11, ln12, ln13, ln14, ln15, ln16, ln17, ln18, ln19, ln20, ln21, ln22, ln23, ln24, nc0, nc1, nc2, nc3, nc4, nc5, nc6, nc7, nc8, nc9, nc10, nc11, nc12, nc13, nc14, nc15, nc16, false_imp_iff, implies_true, beq_self_eq_true, Int.reduceBEq, Int.reduceLT, Int.reduceLE, decide_true, decide_false, List.all_cons, List.all_nil, List.any_cons, List.any_nil, id_eq, Bool.and_true, Bool.true_and, Bool.and_false, Bool.false_and, Bool.or_true, Bool.true_or, Bool.or_false, Bool.false_or, ← hN, e, a]
theorem pot6 (k : Nat) (ns : List Int) {j : Int} (j0 : 0 ≤ j) (j1 : j < 1000) : ∃ P, PotOk P ∧ callAt tb (k + 1) 6 [.d (.scr ns), .d (.int j)] = some (.fr P, [.d (.scr ns), .d (.int j)]) := by
  have n1 : ((2147483549 : Int) != 0) = true := by decide
  have n2 : ((2147483563 : Int) != 0) = true := by decide
  have pw : opF .pow [.int 10, .int 18] = some (.d (.int (10 ^ 18))) := rfl
  have me : mulOk 4261 j = true := mulOk_of (m := 30) (n := 10) (by decide) (by omega) (by decide) (by decide) (by decide)
  have ma : mulOk 739 j = true := mulOk_of (m := 30) (n := 10) (by decide) (by omega) (by decide) (by decide) (by decide)
  have mx : ∀ X : Int, mulOk (X.fmod 2147483549) 39373 = true := fun X => by
    have h0 := Int.emod_nonneg X (show (2147483549 : Int) ≠ 0 by decide)
    have h1 := Int.emod_lt_of_pos X (show (0 : Int) < 2147483549 by decide)
    rw [Int.fmod_eq_emod_of_nonneg _ (by decide)]
    exact mulOk_of (m := 32) (n := 16) (by omega) (by decide) (by decide) (by decide) (by decide)
  have po : ∀ X Y : Int, PotOk [.int Y, .int ((X.fmod 2147483549 * 39373 + 4261 * j + 163).fmod 2147483563 + 1)] := fun X Y => by
    have h0 := Int.emod_nonneg (X.fmod 2147483549 * 39373 + 4261 * j + 163) (show (2147483563 : Int) ≠ 0 by decide)
    have h1 := Int.emod_lt_of_pos (X.fmod 2147483549 * 39373 + 4261 * j + 163) (show (0 : Int) < 2147483563 by decide)
    rw [← Int.fmod_eq_emod_of_nonneg _ (show (0 : Int) ≤ 2147483563 by decide)] at h0 h1
    exact ⟨_, _, rfl, by omega, by omega⟩
  by_cases hj : j < (ns.length : Nat)
  · obtain ⟨x, g1, g2⟩ := atI_int (xs := ns.map .int) j0 (by simpa using hj)
    obtain ⟨y, _, rfl⟩ := List.mem_map.mp g2
    refine ⟨_, po (if y < 0 then -y else y) (if (if y < 0 then -y else y) - 10 ^ 18 > 0 then (if y < 0 then -y else y) - 10 ^ 18 else 0), ?_⟩
    rw [cS, h6, bd]
    unfold t_law_pot_6 runF
    simp only [v_var, v_lit, v_op, v_tup, v_lst, v_and, v_or, v_ite, v_chain, v_call, v_comp, v_mut, v_met, vs_nil, vs_cons, x_asg, x_asgT, x_set, x_unp, x_par, x_aug, x_if, x_ifl, frzE_nil, frzE_cons, frzSl_un, frzSl_d, frzSl_own, x_whl, x_for, x_ret, x_retN, x_expr, x_brk, x_cont, x_pass, xs_nil, xs_cons, lockA, unlockA, evCond, rdAs, rdA, boolA, bd, frz, frzs, frzR, slA, slAs, refs, postA, keepA, keepAs, g_nm', g_tp', g_sb', gs_nil', gs_cons', isOwn, isSet, isLs, setAt, putN_eq, fr_d, fr_un, fr_own0, slT, asD, retT, n_nm, n_tp, n_tl, ns_nil, ns_cons, augF, augI, items, mutKeeps, mutF, pick, List.filterMap_cons, List.filterMap_nil, List.getElem?_cons_zero, List.getElem?_cons_succ, List.getElem?_nil, List.length_cons, List.length_nil, List.cons_append, List.nil_append, List.replicate, List.map_cons, List.map_nil, List.set_cons_zero, List.set_cons_succ, List.take_succ_cons, List.take_zero, Option.map_some, Nat.le_refl, Nat.zero_add, Nat.reduceAdd, Nat.reduceSub, Nat.reduceLeDiff, Nat.reduceEqDiff, if_true, if_false, Bool.false_eq_true, reduceIte, List.nodup_nil, List.nodup_cons, List.not_mem_nil, not_false_eq_true, and_true, true_and, List.mem_cons, or_false, or_self, forall_eq, forall_eq_or_imp,  Nat.le_add_left, Nat.zero_le, q_add, q_sub, q_neg, q_no, q_eq, q_ne, q_lt, q_le, q_gt, q_ge, q_toInt, q_abs, q_max2, q_lenL, q_lenS, q_lenT, q_ixL, q_ixT, q_ixS, q_isi_ii, q_isi_bi, q_isi_ib, q_isi_bb, q_isi_tt, q_isi_ll, q_isi_lt, q_isi_tl, q_isN_n, q_isN_t, q_isN_i, q_notN_n, q_notN_t, q_notN_i, q_eqS, q_neS, q_all, q_any, q_sum, q_tuple, q_listT, q_listL, q_idI, q_gcd, q_min2, q_isB, q_notB, Bool.not_true, Bool.not_false, Bool.not_not, at1_0, ixN1_0, at2_0, ixN2_0, at2_1, ixN2_1, at3_0, ixN3_0, at3_1, ixN3_1, at3_2, ixN3_2, at4_0, ixN4_0, at4_1, ixN4_1, at4_2, ixN4_2, at4_3, ixN4_3, at5_0, ixN5_0, at5_1, ixN5_1, at5_2, ixN5_2, at5_3, ixN5_3, at5_4, ixN5_4, at6_0, ixN6_0, at6_1, ixN6_1, at6_2, ixN6_2, at6_3, ixN6_3, at6_4, ixN6_4, at6_5, ixN6_5, ln0, ln1, ln2, ln3, ln4, ln5, ln6, ln7, ln8, ln9, ln10, ln11, ln12, ln13, ln14, ln15, ln16, ln17, ln18, ln19, ln20, ln21, ln22, ln23, ln24, nc0, nc1, nc2, nc3, nc4, nc5, nc6, nc7, nc8, nc9, nc10, nc11, nc12, nc13, nc14, nc15, nc16, false_imp_iff, implies_true, beq_self_eq_true, Int.reduceBEq, Int.reduceLT, Int.reduceLE, decide_true, decide_false, List.all_cons, List.all_nil, List.any_cons, List.any_nil, id_eq, Bool.and_true, Bool.true_and, Bool.and_false, Bool.false_and, Bool.or_true, Bool.true_or, Bool.or_false, Bool.false_or, decide_eq_true hj, g1]
    simp only [v_var, v_lit, v_op, v_tup, v_lst, v_and, v_or, v_ite, v_chain, v_call, v_comp, v_mut, v_met, vs_nil, vs_cons, x_asg, x_asgT, x_set, x_unp, x_par, x_aug, x_if, x_ifl, frzE_nil, frzE_cons, frzSl_un, frzSl_d, frzSl_own, x_whl, x_for, x_ret, x_retN, x_expr, x_brk, x_cont, x_pass, xs_nil, xs_cons, lockA, unlockA, evCond, rdAs, rdA, boolA, bd, frz, frzs, frzR, slA, slAs, refs, postA, keepA, keepAs, g_nm', g_tp', g_sb', gs_nil', gs_cons', isOwn, isSet, isLs, setAt, putN_eq, fr_d, fr_un, fr_own0, slT, asD, retT, n_nm, n_tp, n_tl, ns_nil, ns_cons, augF, augI, items, mutKeeps, mutF, pick, List.filterMap_cons, List.filterMap_nil, List.getElem?_cons_zero, List.getElem?_cons_succ, List.getElem?_nil, List.length_cons, List.length_nil, List.cons_append, List.nil_append, List.replicate, List.map_cons, List.map_nil, List.set_cons_zero, List.set_cons_succ, List.take_succ_cons, List.take_zero, Option.map_some, Nat.le_refl, Nat.zero_add, Nat.reduceAdd, Nat.reduceSub, Nat.reduceLeDiff, Nat.reduceEqDiff, if_true, if_false, Bool.false_eq_true, reduceIte, List.nodup_nil, List.nodup_cons, List.not_mem_nil, not_false_eq_true, and_true, true_and, List.mem_cons, or_false, or_self, forall_eq, forall_eq_or_imp,  Nat.le_add_left, Nat.zero_le, q_add, q_sub, q_neg, q_no, q_eq, q_ne, q_lt, q_le, q_gt, q_ge, q_toInt, q_abs, q_max2, q_lenL, q_lenS, q_lenT, q_ixL, q_ixT, q_ixS, q_isi_ii, q_isi_bi, q_isi_ib, q_isi_bb, q_isi_tt, q_isi_ll, q_isi_lt, q_isi_tl, q_isN_n, q_isN_t, q_isN_i, q_notN_n, q_notN_t, q_notN_i, q_eqS, q_neS, q_all, q_any, q_sum, q_tuple, q_listT, q_listL, q_idI, q_gcd, q_min2, q_isB, q_notB, Bool.not_true, Bool.not_false, Bool.not_not, at1_0, ixN1_0, at2_0, ixN2_0, at2_1, ixN2_1, at3_0, ixN3_0, at3_1, ixN3_1, at3_2, ixN3_2, at4_0, ixN4_0, at4_1, ixN4_1, at4_2, ixN4_2, at4_3, ixN4_3, at5_0, ixN5_0, at5_1, ixN5_1, at5_2, ixN5_2, at5_3, ixN5_3, at5_4, ixN5_4, at6_0, ixN6_0, at6_1, ixN6_1, at6_2, ixN6_2, at6_3, ixN6_3, at6_4, ixN6_4, at6_5, ixN6_5, ln0, ln1, ln2, ln3, ln4, ln5, ln6, ln7, ln8, ln9, ln10, ln11, ln12, ln13, ln14, ln15, ln16, ln17, ln18, ln19, ln20, ln21, ln22, ln23, ln24, nc0, nc1, nc2, nc3, nc4, nc5, nc6, nc7, nc8, nc9, nc10, nc11, nc12, nc13, nc14, nc15, nc16, false_imp_iff, implies_true, beq_self_eq_true, Int.reduceBEq, Int.reduceLT, Int.reduceLE, decide_true, decide_false, List.all_cons, List.all_nil, List.any_cons, List.any_nil, id_eq, Bool.and_true, Bool.true_and, Bool.and_false, Bool.false_and, Bool.or_true, Bool.true_or, Bool.or_false, Bool.false_or, pw, q_mod n1, q_mod n2, q_mul (mx _), q_mul me]
  · refine ⟨_, po (739 * j + 1009) (if (739 * j + 1009) - 10 ^ 18 > 0 then (739 * j + 1009) - 10 ^ 18 else 0), ?_⟩
    rw [cS, h6, bd]
    unfold t_law_pot_6 runF
    simp only [v_var, v_lit, v_op, v_tup, v_lst, v_and, v_or, v_ite, v_chain, v_call, v_comp, v_mut, v_met, vs_nil, vs_cons, x_asg, x_asgT, x_set, x_unp, x_par, x_aug, x_if, x_ifl, frzE_nil, frzE_cons, frzSl_un, frzSl_d, frzSl_own, x_whl, x_for, x_ret, x_retN, x_expr, x_brk, x_cont, x_pass, xs_nil, xs_cons, lockA, unlockA, evCond, rdAs, rdA, boolA, bd, frz, frzs, frzR, slA, slAs, refs, postA, keepA, keepAs, g_nm', g_tp', g_sb', gs_nil', gs_cons', isOwn, isSet, isLs, setAt, putN_eq, fr_d, fr_un, fr_own0, slT, asD, retT, n_nm, n_tp, n_tl, ns_nil, ns_cons, augF, augI, items, mutKeeps, mutF, pick, List.filterMap_cons, List.filterMap_nil, List.getElem?_cons_zero, List.getElem?_cons_succ, List.getElem?_nil, List.length_cons, List.length_nil, List.cons_append, List.nil_append, List.replicate, List.map_cons, List.map_nil, List.set_cons_zero, List.set_cons_succ, List.take_succ_cons, List.take_zero, Option.map_some, Nat.le_refl, Nat.zero_add, Nat.reduceAdd, Nat.reduceSub, Nat.reduceLeDiff, Nat.reduceEqDiff, if_true, if_false, Bool.false_eq_true, reduceIte, List.nodup_nil, List.nodup_cons, List.not_mem_nil, not_false_eq_true, and_true, true_and, List.mem_cons, or_false, or_self, forall_eq, forall_eq_or_imp,  Nat.le_add_left, Nat.zero_le, q_add, q_sub, q_neg, q_no, q_eq, q_ne, q_lt, q_le, q_gt, q_ge, q_toInt, q_abs, q_max2, q_lenL, q_lenS, q_lenT, q_ixL, q_ixT, q_ixS, q_isi_ii, q_isi_bi, q_isi_ib, q_isi_bb, q_isi_tt, q_isi_ll, q_isi_lt, q_isi_tl, q_isN_n, q_isN_t, q_isN_i, q_notN_n, q_notN_t, q_notN_i, q_eqS, q_neS, q_all, q_any, q_sum, q_tuple, q_listT, q_listL, q_idI, q_gcd, q_min2, q_isB, q_notB, Bool.not_true, Bool.not_false, Bool.not_not, at1_0, ixN1_0, at2_0, ixN2_0, at2_1, ixN2_1, at3_0, ixN3_0, at3_1, ixN3_1, at3_2, ixN3_2, at4_0, ixN4_0, at4_1, ixN4_1, at4_2, ixN4_2, at4_3, ixN4_3, at5_0, ixN5_0, at5_1, ixN5_1, at5_2, ixN5_2, at5_3, ixN5_3, at5_4, ixN5_4, at6_0, ixN6_0, at6_1, ixN6_1, at6_2, ixN6_2, at6_3, ixN6_3, at6_4, ixN6_4, at6_5, ixN6_5, ln0, ln1, ln2, ln3, ln4, ln5, ln6, ln7, ln8, ln9, ln10, ln11, ln12, ln13, ln14, ln15, ln16, ln17, ln18, ln19, ln20, ln21, ln22, ln23, ln24, nc0, nc1, nc2, nc3, nc4, nc5, nc6, nc7, nc8, nc9, nc10, nc11, nc12, nc13, nc14, nc15, nc16, false_imp_iff, implies_true, beq_self_eq_true, Int.reduceBEq, Int.reduceLT, Int.reduceLE, decide_true, decide_false, List.all_cons, List.all_nil, List.any_cons, List.any_nil, id_eq, Bool.and_true, Bool.true_and, Bool.and_false, Bool.false_and, Bool.or_true, Bool.true_or, Bool.or_false, Bool.false_or, decide_eq_false hj, q_mul ma, pw, q_mod n1, q_mod n2, q_mul (mx _), q_mul me]
/-! ### neighbours -/
structure Nb (l r : Int × Int) (K : Int) : Prop where
  a0 : 0 ≤ l.1
  b1 : 1 ≤ l.2
  c1 : 1 ≤ r.1
  d0 : 0 ≤ r.2
  det : r.1 * l.2 - l.1 * r.2 = 1
  ka : l.1 ≤ K
  kb : l.2 ≤ K
  kc : r.1 ≤ K
  kd : r.2 ≤ K
theorem gcd_of {a b c d : Int} (h : c * b - a * d = 1) : Int.gcd a b = 1 := by
  have h1 : (Int.gcd a b : Int) ∣ c * b - a * d := Int.dvd_sub (Int.dvd_trans (Int.gcd_dvd_right _ _) (Int.dvd_mul_left ..)) (Int.dvd_trans (Int.gcd_dvd_left _ _) (Int.dvd_mul_right ..))
  rw [h] at h1
  have := Int.natAbs_dvd_natAbs.mpr h1
  have e : Int.gcd a b ∣ 1 := by simpa using this
  exact Nat.dvd_one.mp e
theorem Nb.redl {l r : Int × Int} {K : Int} (h : Nb l r K) : Red l := ⟨by have := h.b1; omega, gcd_of h.det⟩
theorem Nb.redr {l r : Int × Int} {K : Int} (h : Nb l r K) (z : r ≠ (1, 0)) : Red r := by
  have d := h.det
  refine ⟨?_, ?_⟩
  · have h0 := h.d0
    rcases Int.lt_or_eq_of_le h0 with q | q
    · exact q
    · exfalso
      rw [← q, Int.mul_zero, Int.sub_zero] at d
      have c1 := h.c1
      have b1 := h.b1
      have m : r.1 * 1 ≤ r.1 * l.2 := Int.mul_le_mul_of_nonneg_left b1 (by omega)
      exact z (Prod.ext (show r.1 = 1 by omega) q.symm)
  · rw [Int.gcd_comm]
    exact gcd_of (a := r.2) (b := r.1) (c := l.2) (d := l.1) (by rw [Int.mul_comm l.2, Int.mul_comm r.2]; exact d)
theorem Nb.left {l r : Int × Int} {K : Int} (h : Nb l r K) : Nb (l.1 + r.1, l.2 + r.2) r (2 * K) := by
  obtain ⟨h1, h2, h3, h4, h5, h6, h7, h8, h9⟩ := h
  refine ⟨?_, ?_, h3, h4, ?_, ?_, ?_, ?_, ?_⟩
  · show 0 ≤ l.1 + r.1; omega
  · show 1 ≤ l.2 + r.2; omega
  · show r.1 * (l.2 + r.2) - (l.1 + r.1) * r.2 = 1
    rw [Int.mul_add, Int.add_mul]; omega
  · show l.1 + r.1 ≤ 2 * K; omega
  · show l.2 + r.2 ≤ 2 * K; omega
  · omega
  · omega
theorem Nb.right {l r : Int × Int} {K : Int} (h : Nb l r K) : Nb l (l.1 + r.1, l.2 + r.2) (2 * K) := by
  obtain ⟨h1, h2, h3, h4, h5, h6, h7, h8, h9⟩ := h
  refine ⟨h1, h2, ?_, ?_, ?_, ?_, ?_, ?_, ?_⟩
  · show 1 ≤ l.1 + r.1; omega
  · show 0 ≤ l.2 + r.2; omega
  · show (l.1 + r.1) * l.2 - l.1 * (l.2 + r.2) = 1
    rw [Int.mul_add, Int.add_mul]; omega
  · omega
  · omega
  · show l.1 + r.1 ≤ 2 * K; omega
  · show l.2 + r.2 ≤ 2 * K; omega
/-! ### the program's -/
theorem eqD_rD (p q : Int × Int) : eqD (rD p) (rD q) = decide (p = q) := by
  show ((p.1 == q.1) && ((p.2 == q.2) && true)) = _
  rw [Bool.and_true]
  by_cases c : p = q
  · subst c; simp
  · rw [decide_eq_false c]
    by_cases c1 : p.1 = q.1
    · have c2 : p.2 ≠ q.2 := fun z => c (Prod.ext c1 z)
      simp [c2]
    · simp [c1]
theorem eqR (p q : Int × Int) : opF .eq [rD p, rD q] = some (.d (.bl (decide (p = q)))) := by
  have h : (sh 60 (rD p) && sh 60 (rD q)) = true := rfl
  refine (show opF .eq [rD p, rD q] = if (sh 60 (rD p) && sh 60 (rD q)) = true then some (.d (.bl (eqD (rD p) (rD q)))) else none from rfl).trans ?_
  rw [if_pos h, eqD_rD]
theorem neR (p q : Int × Int) : opF .ne [rD p, rD q] = some (.d (.bl (!decide (p = q)))) := by
  have h : (sh 60 (rD p) && sh 60 (rD q)) = true := rfl
  refine (show opF .ne [rD p, rD q] = if (sh 60 (rD p) && sh 60 (rD q)) = true then some (.d (.bl (!eqD (rD p) (rD q)))) else none from rfl).trans ?_
  rw [if_pos h, eqD_rD]
theorem neR0 (p : Int × Int) : opF .ne [rD p, rD p] = some (.d (.bl false)) := by rw [neR, decide_eq_true rfl]; rfl
theorem ne_bb (t : Bool) : opF .ne [.bl t, .bl t] = some (.d (.bl false)) := by cases t <;> rfl
theorem run3 {k : Nat} {a b c d x y : Int} {nb : Bool} (cc : ∀ j : Int, callAt tb k 0 [.d (.int j)] = some (.d (.bl true), [.d (.int j)])) (e2 : callAt tb k 2 [.d (.tup [.int a, .int b])] = some (.d (.bl true), [.d (.tup [.int a, .int b])])) (a0 : decide (a < 0) = false)
    (ne : opF .ne [.tup [.int c, .int d], .tup [.int 1, .int 0]] = some (.d (.bl nb))) (e2' : nb = true → callAt tb k 2 [.d (.tup [.int c, .int d])] = some (.d (.bl true), [.d (.tup [.int c, .int d])])) (c0 : decide (c < 0) = false)
    (m1 : opF .mul [.int c, .int b] = some (.d (.int x))) (m2 : opF .mul [.int a, .int d] = some (.d (.int y))) (hd : (x - y == 1) = true) :
    callAt tb (k + 1) 3 [.d (.tup [.int a, .int b]), .d (.tup [.int c, .int d])] = some (.d (.bl true), [.d (.tup [.int a, .int b]), .d (.tup [.int c, .int d])]) := by
  have w1 : wkL .seq [.tup [.int c, .int d]] = some [.int c, .int d] := rfl
  have bs : boolsD [.bl true, .bl true] = some [true, true] := rfl
  cases nb with
  | false =>
    rw [cS, h3, bd]
    unfold t_neighbours_are_right_3 runF
    simp only [v_var, v_lit, v_op, v_tup, v_lst, v_and, v_or, v_ite, v_chain, v_call, v_comp, v_mut, v_met, vs_nil, vs_cons, x_asg, x_asgT, x_set, x_unp, x_par, x_aug, x_if, x_ifl, frzE_nil, frzE_cons, frzSl_un, frzSl_d, frzSl_own, x_whl, x_for, x_ret, x_retN, x_expr, x_brk, x_cont, x_pass, xs_nil, xs_cons, lockA, unlockA, evCond, rdAs, rdA, boolA, bd, frz, frzs, frzR, slA, slAs, refs, postA, keepA, keepAs, g_nm', g_tp', g_sb', gs_nil', gs_cons', isOwn, isSet, isLs, setAt, putN_eq, fr_d, fr_un, fr_own0, slT, asD, retT, n_nm, n_tp, n_tl, ns_nil, ns_cons, augF, augI, items, mutKeeps, mutF, pick, List.filterMap_cons, List.filterMap_nil, List.getElem?_cons_zero, List.getElem?_cons_succ, List.getElem?_nil, List.length_cons, List.length_nil, List.cons_append, List.nil_append, List.replicate, List.map_cons, List.map_nil, List.set_cons_zero, List.set_cons_succ, List.take_succ_cons, List.take_zero, Option.map_some, Nat.le_refl, Nat.zero_add, Nat.reduceAdd, Nat.reduceSub, Nat.reduceLeDiff, Nat.reduceEqDiff, if_true, if_false, Bool.false_eq_true, reduceIte, List.nodup_nil, List.nodup_cons, List.not_mem_nil, not_false_eq_true, and_true, true_and, List.mem_cons, or_false, or_self, forall_eq, forall_eq_or_imp,  Nat.le_add_left, Nat.zero_le, q_add, q_sub, q_neg, q_no, q_eq, q_ne, q_lt, q_le, q_gt, q_ge, q_toInt, q_abs, q_max2, q_lenL, q_lenS, q_lenT, q_ixL, q_ixT, q_ixS, q_isi_ii, q_isi_bi, q_isi_ib, q_isi_bb, q_isi_tt, q_isi_ll, q_isi_lt, q_isi_tl, q_isN_n, q_isN_t, q_isN_i, q_notN_n, q_notN_t, q_notN_i, q_eqS, q_neS, q_all, q_any, q_sum, q_tuple, q_listT, q_listL, q_idI, q_gcd, q_min2, q_isB, q_notB, Bool.not_true, Bool.not_false, Bool.not_not, at1_0, ixN1_0, at2_0, ixN2_0, at2_1, ixN2_1, at3_0, ixN3_0, at3_1, ixN3_1, at3_2, ixN3_2, at4_0, ixN4_0, at4_1, ixN4_1, at4_2, ixN4_2, at4_3, ixN4_3, at5_0, ixN5_0, at5_1, ixN5_1, at5_2, ixN5_2, at5_3, ixN5_3, at5_4, ixN5_4, at6_0, ixN6_0, at6_1, ixN6_1, at6_2, ixN6_2, at6_3, ixN6_3, at6_4, ixN6_4, at6_5, ixN6_5, ln0, ln1, ln2, ln3, ln4, ln5, ln6, ln7, ln8, ln9, ln10, ln11, ln12, ln13, ln14, ln15, ln16, ln17, ln18, ln19, ln20, ln21, ln22, ln23, ln24, nc0, nc1, nc2, nc3, nc4, nc5, nc6, nc7, nc8, nc9, nc10, nc11, nc12, nc13, nc14, nc15, nc16, false_imp_iff, implies_true, beq_self_eq_true, Int.reduceBEq, Int.reduceLT, Int.reduceLE, decide_true, decide_false, List.all_cons, List.all_nil, List.any_cons, List.any_nil, id_eq, Bool.and_true, Bool.true_and, Bool.and_false, Bool.false_and, Bool.or_true, Bool.true_or, Bool.or_false, Bool.false_or, e2, a0, w1, compL, stepC, wipeE, backE, cc, bs, ne, m1, m2, hd]
  | true =>
    have e3 := e2' rfl
    rw [cS, h3, bd]
    unfold t_neighbours_are_right_3 runF
    simp only [v_var, v_lit, v_op, v_tup, v_lst, v_and, v_or, v_ite, v_chain, v_call, v_comp, v_mut, v_met, vs_nil, vs_cons, x_asg, x_asgT, x_set, x_unp, x_par, x_aug, x_if, x_ifl, frzE_nil, frzE_cons, frzSl_un, frzSl_d, frzSl_own, x_whl, x_for, x_ret, x_retN, x_expr, x_brk, x_cont, x_pass, xs_nil, xs_cons, lockA, unlockA, evCond, rdAs, rdA, boolA, bd, frz, frzs, frzR, slA, slAs, refs, postA, keepA, keepAs, g_nm', g_tp', g_sb', gs_nil', gs_cons', isOwn, isSet, isLs, setAt, putN_eq, fr_d, fr_un, fr_own0, slT, asD, retT, n_nm, n_tp, n_tl, ns_nil, ns_cons, augF, augI, items, mutKeeps, mutF, pick, List.filterMap_cons, List.filterMap_nil, List.getElem?_cons_zero, List.getElem?_cons_succ, List.getElem?_nil, List.length_cons, List.length_nil, List.cons_append, List.nil_append, List.replicate, List.map_cons, List.map_nil, List.set_cons_zero, List.set_cons_succ, List.take_succ_cons, List.take_zero, Option.map_some, Nat.le_refl, Nat.zero_add, Nat.reduceAdd, Nat.reduceSub, Nat.reduceLeDiff, Nat.reduceEqDiff, if_true, if_false, Bool.false_eq_true, reduceIte, List.nodup_nil, List.nodup_cons, List.not_mem_nil, not_false_eq_true, and_true, true_and, List.mem_cons, or_false, or_self, forall_eq, forall_eq_or_imp,  Nat.le_add_left, Nat.zero_le, q_add, q_sub, q_neg, q_no, q_eq, q_ne, q_lt, q_le, q_gt, q_ge, q_toInt, q_abs, q_max2, q_lenL, q_lenS, q_lenT, q_ixL, q_ixT, q_ixS, q_isi_ii, q_isi_bi, q_isi_ib, q_isi_bb, q_isi_tt, q_isi_ll, q_isi_lt, q_isi_tl, q_isN_n, q_isN_t, q_isN_i, q_notN_n, q_notN_t, q_notN_i, q_eqS, q_neS, q_all, q_any, q_sum, q_tuple, q_listT, q_listL, q_idI, q_gcd, q_min2, q_isB, q_notB, Bool.not_true, Bool.not_false, Bool.not_not, at1_0, ixN1_0, at2_0, ixN2_0, at2_1, ixN2_1, at3_0, ixN3_0, at3_1, ixN3_1, at3_2, ixN3_2, at4_0, ixN4_0, at4_1, ixN4_1, at4_2, ixN4_2, at4_3, ixN4_3, at5_0, ixN5_0, at5_1, ixN5_1, at5_2, ixN5_2, at5_3, ixN5_3, at5_4, ixN5_4, at6_0, ixN6_0, at6_1, ixN6_1, at6_2, ixN6_2, at6_3, ixN6_3, at6_4, ixN6_4, at6_5, ixN6_5, ln0, ln1, ln2, ln3, ln4, ln5, ln6, ln7, ln8, ln9, ln10, ln11, ln12, ln13, ln14, ln15, ln16, ln17, ln18, ln19, ln20, ln21, ln22, ln23, ln24, nc0, nc1, nc2, nc3, nc4, nc5, nc6, nc7, nc8, nc9, nc10, nc11, nc12, nc13, nc14, nc15, nc16, false_imp_iff, implies_true, beq_self_eq_true, Int.reduceBEq, Int.reduceLT, Int.reduceLE, decide_true, decide_false, List.all_cons, List.all_nil, List.any_cons, List.any_nil, id_eq, Bool.and_true, Bool.true_and, Bool.and_false, Bool.false_and, Bool.or_true, Bool.true_or, Bool.or_false, Bool.false_or, e2, a0, w1, compL, stepC, wipeE, backE, cc, bs, ne, e3, c0, m1, m2, hd]
theorem f3 (k : Nat) {l r : Int × Int} {K : Int} (h : Nb l r K) (hK : K < 2 ^ 60) : callAt tb (k + 4) 3 [.d (rD l), .d (rD r)] = some (.d (.bl true), [.d (rD l), .d (rD r)]) := by
  obtain ⟨k1, k2, k3, k4⟩ : l.1 < 2 ^ 60 ∧ l.2 < 2 ^ 60 ∧ r.1 < 2 ^ 60 ∧ r.2 < 2 ^ 60 := ⟨by have := h.ka; omega, by have := h.kb; omega, by have := h.kc; omega, by have := h.kd; omega⟩
  have a0 := h.a0
  have b1 := h.b1
  have c1 := h.c1
  have d0 := h.d0
  have e2 := isRatio_ok h0 h1 h2 k h.redl
  have m1 := q_mulB (a := r.1) (b := l.2) (by omega) (by omega)
  have m2 := q_mulB (a := l.1) (b := r.2) (by omega) (by omega)
  exact run3 (k := k + 3) (fun j => isInt_ok h0 (k + 2) j) e2 (decide_eq_false (by omega)) (neR r (1, 0)) (fun z => isRatio_ok h0 h1 h2 k (h.redr (fun q => by rw [decide_eq_true q] at z; cases z))) (decide_eq_false (by omega)) m1 m2 (by rw [h.det]; rfl)
theorem f4 (k : Nat) {l r : Int × Int} {K : Int} (h : Nb l r K) (hK : K < 2 ^ 60) : callAt tb (k + 5) 4 [.d (rD l), .d (rD r)] = some (.d .non, [.d (rD l), .d (rD r)]) := by
  have e2 := isRatio_ok h0 h1 h2 (k + 1) h.redl
  have e3 := f3 k h hK
  have a0 : decide (l.1 < 0) = false := decide_eq_false (by have := h.a0; omega)
  unfold rD at *
  rw [cS, h4, bd]
  unfold t_check_neighbours_4 runF
  simp only [v_var, v_lit, v_op, v_tup, v_lst, v_and, v_or, v_ite, v_chain, v_call, v_comp, v_mut, v_met, vs_nil, vs_cons, x_asg, x_asgT, x_set, x_unp, x_par, x_aug, x_if, x_ifl, frzE_nil, frzE_cons, frzSl_un, frzSl_d, frzSl_own, x_whl, x_for, x_ret, x_retN, x_expr, x_brk, x_cont, x_pass, xs_nil, xs_cons, lockA, unlockA, evCond, rdAs, rdA, boolA, bd, frz, frzs, frzR, slA, slAs, refs, postA, keepA, keepAs, g_nm', g_tp', g_sb', gs_nil', gs_cons', isOwn, isSet, isLs, setAt, putN_eq, fr_d, fr_un, fr_own0, slT, asD, retT, n_nm, n_tp, n_tl, ns_nil, ns_cons, augF, augI, items, mutKeeps, mutF, pick, List.filterMap_cons, List.filterMap_nil, List.getElem?_cons_zero, List.getElem?_cons_succ, List.getElem?_nil, List.length_cons, List.length_nil, List.cons_append, List.nil_append, List.replicate, List.map_cons, List.map_nil, List.set_cons_zero, List.set_cons_succ, List.take_succ_cons, List.take_zero, Option.map_some, Nat.le_refl, Nat.zero_add, Nat.reduceAdd, Nat.reduceSub, Nat.reduceLeDiff, Nat.reduceEqDiff, if_true, if_false, Bool.false_eq_true, reduceIte, List.nodup_nil, List.nodup_cons, List.not_mem_nil, not_false_eq_true, and_true, true_and, List.mem_cons, or_false, or_self, forall_eq, forall_eq_or_imp,  Nat.le_add_left, Nat.zero_le, q_add, q_sub, q_neg, q_no, q_eq, q_ne, q_lt, q_le, q_gt, q_ge, q_toInt, q_abs, q_max2, q_lenL, q_lenS, q_lenT, q_ixL, q_ixT, q_ixS, q_isi_ii, q_isi_bi, q_isi_ib, q_isi_bb, q_isi_tt, q_isi_ll, q_isi_lt, q_isi_tl, q_isN_n, q_isN_t, q_isN_i, q_notN_n, q_notN_t, q_notN_i, q_eqS, q_neS, q_all, q_any, q_sum, q_tuple, q_listT, q_listL, q_idI, q_gcd, q_min2, q_isB, q_notB, Bool.not_true, Bool.not_false, Bool.not_not, at1_0, ixN1_0, at2_0, ixN2_0, at2_1, ixN2_1, at3_0, ixN3_0, at3_1, ixN3_1, at3_2, ixN3_2, at4_0, ixN4_0, at4_1, ixN4_1, at4_2, ixN4_2, at4_3, ixN4_3, at5_0, ixN5_0, at5_1, ixN5_1, at5_2, ixN5_2, at5_3, ixN5_3, at5_4, ixN5_4, at6_0, ixN6_0, at6_1, ixN6_1, at6_2, ixN6_2, at6_3, ixN6_3, at6_4, ixN6_4, at6_5, ixN6_5, ln0, ln1, ln2, ln3, ln4, ln5, ln6, ln7, ln8, ln9, ln10, ln11, ln12, ln13, ln14, ln15, ln16, ln17, ln18, ln19, ln20, ln21, ln22, ln23, ln24, nc0, nc1, nc2, nc3, nc4, nc5, nc6, nc7, nc8, nc9, nc10, nc11, nc12, nc13, nc14, nc15, nc16, false_imp_iff, implies_true, beq_self_eq_true, Int.reduceBEq, Int.reduceLT, Int.reduceLE, decide_true, decide_false, List.all_cons, List.all_nil, List.any_cons, List.any_nil, id_eq, Bool.and_true, Bool.true_and, Bool.and_false, Bool.false_and, Bool.or_true, Bool.true_or, Bool.or_false, Bool.false_or, e2, e3, a0]
theorem run5 {k : Nat} {a b c d o1 o2 p q r s m X Y : Int} (e4 : callAt tb k 4 [.d (.tup [.int a, .int b]), .d (.tup [.int c, .int d])] = some (.d .non, [.d (.tup [.int a, .int b]), .d (.tup [.int c, .int d])])) (e2 : callAt tb k 2 [.d (.tup [.int o1, .int o2])] = some (.d (.bl true), [.d (.tup [.int o1, .int o2])]))
    (m1 : opF .mul [.int c, .int o2] = some (.d (.int p))) (m2 : opF .mul [.int d, .int o1] = some (.d (.int q))) (m3 : opF .mul [.int b, .int o1] = some (.d (.int r))) (m4 : opF .mul [.int a, .int o2] = some (.d (.int s))) (hX : p - q = X) (hY : r - s = Y)
    (mn : opF .minL [.tup [.int X, .int Y]] = some (.d (.int m))) (hm : decide (m < 0) = false) :
    callAt tb (k + 1) 5 [.d (.tup [.int a, .int b]), .d (.tup [.int c, .int d]), .d (.tup [.int o1, .int o2])] = some (.d (.tup [.int X, .int Y]), [.d (.tup [.int a, .int b]), .d (.tup [.int c, .int d]), .d (.tup [.int o1, .int o2])]) := by
  rw [cS, h5, bd]
  unfold t_shares_5 runF
  simp only [v_var, v_lit, v_op, v_tup, v_lst, v_and, v_or, v_ite, v_chain, v_call, v_comp, v_mut, v_met, vs_nil, vs_cons, x_asg, x_asgT, x_set, x_unp, x_par, x_aug, x_if, x_ifl, frzE_nil, frzE_cons, frzSl_un, frzSl_d, frzSl_own, x_whl, x_for, x_ret, x_retN, x_expr, x_brk, x_cont, x_pass, xs_nil, xs_cons, lockA, unlockA, evCond, rdAs, rdA, boolA, bd, frz, frzs, frzR, slA, slAs, refs, postA, keepA, keepAs, g_nm', g_tp', g_sb', gs_nil', gs_cons', isOwn, isSet, isLs, setAt, putN_eq, fr_d, fr_un, fr_own0, slT, asD, retT, n_nm, n_tp, n_tl, ns_nil, ns_cons, augF, augI, items, mutKeeps, mutF, pick, List.filterMap_cons, List.filterMap_nil, List.getElem?_cons_zero, List.getElem?_cons_succ, List.getElem?_nil, List.length_cons, List.length_nil, List.cons_append, List.nil_append, List.replicate, List.map_cons, List.map_nil, List.set_cons_zero, List.set_cons_succ, List.take_succ_cons, List.take_zero, Option.map_some, Nat.le_refl, Nat.zero_add, Nat.reduceAdd, Nat.reduceSub, Nat.reduceLeDiff, Nat.reduceEqDiff, if_true, if_false, Bool.false_eq_true, reduceIte, List.nodup_nil, List.nodup_cons, List.not_mem_nil, not_false_eq_true, and_true, true_and, List.mem_cons, or_false, or_self, forall_eq, forall_eq_or_imp,  Nat.le_add_left, Nat.zero_le, q_add, q_sub, q_neg, q_no, q_eq, q_ne, q_lt, q_le, q_gt, q_ge, q_toInt, q_abs, q_max2, q_lenL, q_lenS, q_lenT, q_ixL, q_ixT, q_ixS, q_isi_ii, q_isi_bi, q_isi_ib, q_isi_bb, q_isi_tt, q_isi_ll, q_isi_lt, q_isi_tl, q_isN_n, q_isN_t, q_isN_i, q_notN_n, q_notN_t, q_notN_i, q_eqS, q_neS, q_all, q_any, q_sum, q_tuple, q_listT, q_listL, q_idI, q_gcd, q_min2, q_isB, q_notB, Bool.not_true, Bool.not_false, Bool.not_not, at1_0, ixN1_0, at2_0, ixN2_0, at2_1, ixN2_1, at3_0, ixN3_0, at3_1, ixN3_1, at3_2, ixN3_2, at4_0, ixN4_0, at4_1, ixN4_1, at4_2, ixN4_2, at4_3, ixN4_3, at5_0, ixN5_0, at5_1, ixN5_1, at5_2, ixN5_2, at5_3, ixN5_3, at5_4, ixN5_4, at6_0, ixN6_0, at6_1, ixN6_1, at6_2, ixN6_2, at6_3, ixN6_3, at6_4, ixN6_4, at6_5, ixN6_5, ln0, ln1, ln2, ln3, ln4, ln5, ln6, ln7, ln8, ln9, ln10, ln11, ln12, ln13, ln14, ln15, ln16, ln17, ln18, ln19, ln20, ln21, ln22, ln23, ln24, nc0, nc1, nc2, nc3, nc4, nc5, nc6, nc7, nc8, nc9, nc10, nc11, nc12, nc13, nc14, nc15, nc16, false_imp_iff, implies_true, beq_self_eq_true, Int.reduceBEq, Int.reduceLT, Int.reduceLE, decide_true, decide_false, List.all_cons, List.all_nil, List.any_cons, List.any_nil, id_eq, Bool.and_true, Bool.true_and, Bool.and_false, Bool.false_and, Bool.or_true, Bool.true_or, Bool.or_false, Bool.false_or, e4, e2, m1, m2, m3, m4, hX, hY, mn, hm]
theorem minT2 (X Y : Int) : opF .minL [.tup [.int X, .int Y]] = some (.d (.int (if Y < X then Y else X))) := rfl
/-- put together -/
def pt (l r p : Int × Int) : Int × Int := (p.1 * l.1 + p.2 * r.1, p.1 * l.2 + p.2 * r.2)
structure Pr (l r p : Int × Int) : Prop where
  x0 : 0 ≤ p.1
  y0 : 0 ≤ p.2
  x1 : p.1 < 2 ^ 40
  y1 : p.2 < 2 ^ 40
  o2 : 0 < (pt l r p).2
  g : Int.gcd p.1 p.2 = 1
theorem gcd_pt {l r p : Int × Int} (det : r.1 * l.2 - l.1 * r.2 = 1) (g : Int.gcd p.1 p.2 = 1) : Int.gcd (pt l r p).1 (pt l r p).2 = 1 := by
  have e1 : r.1 * (pt l r p).2 - r.2 * (pt l r p).1 = p.1 := by
    show r.1 * (p.1 * l.2 + p.2 * r.2) - r.2 * (p.1 * l.1 + p.2 * r.1) = p.1
    have : r.1 * (p.1 * l.2 + p.2 * r.2) - r.2 * (p.1 * l.1 + p.2 * r.1) = p.1 * (r.1 * l.2 - l.1 * r.2) := by grind
    rw [this, det, Int.mul_one]
  have e2 : l.2 * (pt l r p).1 - l.1 * (pt l r p).2 = p.2 := by
    show l.2 * (p.1 * l.1 + p.2 * r.1) - l.1 * (p.1 * l.2 + p.2 * r.2) = p.2
    have : l.2 * (p.1 * l.1 + p.2 * r.1) - l.1 * (p.1 * l.2 + p.2 * r.2) = p.2 * (r.1 * l.2 - l.1 * r.2) := by grind
    rw [this, det, Int.mul_one]
  generalize (pt l r p).1 = a at *
  generalize (pt l r p).2 = b at *
  have d1 : (Int.gcd a b : Int) ∣ p.1 := by
    rw [← e1]
    exact Int.dvd_sub (Int.dvd_trans (Int.gcd_dvd_right _ _) (Int.dvd_mul_left ..)) (Int.dvd_trans (Int.gcd_dvd_left _ _) (Int.dvd_mul_left ..))
  have d2 : (Int.gcd a b : Int) ∣ p.2 := by
    rw [← e2]
    exact Int.dvd_sub (Int.dvd_trans (Int.gcd_dvd_left _ _) (Int.dvd_mul_left ..)) (Int.dvd_trans (Int.gcd_dvd_right _ _) (Int.dvd_mul_left ..))
  have d3 := Int.dvd_gcd d1 d2
  rw [g] at d3
  exact Nat.dvd_one.mp d3
theorem sh_x {l r p : Int × Int} (det : r.1 * l.2 - l.1 * r.2 = 1) : r.1 * (pt l r p).2 - r.2 * (pt l r p).1 = p.1 := by
  show r.1 * (p.1 * l.2 + p.2 * r.2) - r.2 * (p.1 * l.1 + p.2 * r.1) = p.1
  have : r.1 * (p.1 * l.2 + p.2 * r.2) - r.2 * (p.1 * l.1 + p.2 * r.1) = p.1 * (r.1 * l.2 - l.1 * r.2) := by grind
  rw [this, det, Int.mul_one]
theorem sh_y {l r p : Int × Int} (det : r.1 * l.2 - l.1 * r.2 = 1) : l.2 * (pt l r p).1 - l.1 * (pt l r p).2 = p.2 := by
  show l.2 * (p.1 * l.1 + p.2 * r.1) - l.1 * (p.1 * l.2 + p.2 * r.2) = p.2
  have : l.2 * (p.1 * l.1 + p.2 * r.1) - l.1 * (p.1 * l.2 + p.2 * r.2) = p.2 * (r.1 * l.2 - l.1 * r.2) := by grind
  rw [this, det, Int.mul_one]
theorem Pr.big {l r p : Int × Int} {K : Int} (h : Nb l r K) (hK : K < 2 ^ 60) (q : Pr l r p) : 0 ≤ (pt l r p).1 ∧ (pt l r p).1 < 2 ^ 110 ∧ (pt l r p).2 < 2 ^ 110 := by
  obtain ⟨k1, k2, k3, k4⟩ : l.1 < 2 ^ 60 ∧ l.2 < 2 ^ 60 ∧ r.1 < 2 ^ 60 ∧ r.2 < 2 ^ 60 := ⟨by have := h.ka; omega, by have := h.kb; omega, by have := h.kc; omega, by have := h.kd; omega⟩
  have a0 := h.a0
  have b1 := h.b1
  have c1 := h.c1
  have d0 := h.d0
  obtain ⟨x0, y0, x1, y1, _, _⟩ := q
  have up : ∀ {x y : Int}, 0 ≤ x → x < 2 ^ 40 → 0 ≤ y → y < 2 ^ 60 → 0 ≤ x * y ∧ x * y ≤ 2 ^ 40 * 2 ^ 60 := fun {x y} z1 z2 z3 z4 => ⟨Int.mul_nonneg z1 z3, Int.mul_le_mul (by omega) (by omega) z3 (by decide)⟩
  have w1 := up x0 x1 a0 k1
  have w2 := up y0 y1 (show 0 ≤ r.1 by omega) k3
  have w3 := up x0 x1 (show 0 ≤ l.2 by omega) k2
  have w4 := up y0 y1 d0 k4
  refine ⟨?_, ?_, ?_⟩
  · show 0 ≤ p.1 * l.1 + p.2 * r.1; omega
  · show p.1 * l.1 + p.2 * r.1 < _; omega
  · show p.1 * l.2 + p.2 * r.2 < _; omega
theorem f5 (k : Nat) {l r p : Int × Int} {K : Int} (h : Nb l r K) (hK : K < 2 ^ 60) (q : Pr l r p) : callAt tb (k + 6) 5 [.d (rD l), .d (rD r), .d (rD (pt l r p))] = some (.d (rD p), [.d (rD l), .d (rD r), .d (rD (pt l r p))]) := by
  obtain ⟨k1, k2, k3, k4⟩ : l.1 < 2 ^ 60 ∧ l.2 < 2 ^ 60 ∧ r.1 < 2 ^ 60 ∧ r.2 < 2 ^ 60 := ⟨by have := h.ka; omega, by have := h.kb; omega, by have := h.kc; omega, by have := h.kd; omega⟩
  obtain ⟨o0, o1, o2⟩ := q.big h hK
  have o3 := q.o2
  have a0 := h.a0
  have b1 := h.b1
  have c1 := h.c1
  have d0 := h.d0
  have x0 := q.x0
  have y0 := q.y0
  have e4 := f4 k h hK
  have e2 := isRatio_ok h0 h1 h2 (k + 2) (p := pt l r p) ⟨o3, gcd_pt h.det q.g⟩
  have hX := sh_x (p := p) h.det
  have hY := sh_y (p := p) h.det
  generalize pt l r p = o at *
  exact run5 (k := k + 5) e4 e2 (q_mulB (a := r.1) (b := o.2) (by omega) (by omega)) (q_mulB (a := r.2) (b := o.1) (by omega) (by omega)) (q_mulB (a := l.2) (b := o.1) (by omega) (by omega)) (q_mulB (a := l.1) (b := o.2) (by omega) (by omega)) hX hY (minT2 _ _) (decide_eq_false (by split <;> omega))
/-! ### the law's small ones -/
theorem low_loop (C : Sem0) (s0 s1 s2 : Sl) : ∀ (w : Nat) (a b : Nat), b ≤ w → ∀ fu : Nat, w + 1 < fu → whlN (testF C A9T0) (blockF C Fuel A9W0) fu [s0, s1, s2, .d (.int a), .d (.int b)] = some (.nx [s0, s1, s2, .d (.int (Nat.gcd a b : Nat)), .d (.int 0)]) := by
  have test : ∀ a b : Int, testF C A9T0 [s0, s1, s2, .d (.int a), .d (.int b)] = some (decide (0 < b), [s0, s1, s2, .d (.int a), .d (.int b)]) := fun a b => by
    unfold testF A9T0
    simp only [v_var, v_lit, v_op, v_tup, v_lst, v_and, v_or, v_ite, v_chain, v_call, v_comp, v_mut, v_met, vs_nil, vs_cons, x_asg, x_asgT, x_set, x_unp, x_par, x_aug, x_if, x_ifl, frzE_nil, frzE_cons, frzSl_un, frzSl_d, frzSl_own, x_whl, x_for, x_ret, x_retN, x_expr, x_brk, x_cont, x_pass, xs_nil, xs_cons, lockA, unlockA, evCond, rdAs, rdA, boolA, bd, frz, frzs, frzR, slA, slAs, refs, postA, keepA, keepAs, g_nm', g_tp', g_sb', gs_nil', gs_cons', isOwn, isSet, isLs, setAt, putN_eq, fr_d, fr_un, fr_own0, slT, asD, retT, n_nm, n_tp, n_tl, ns_nil, ns_cons, augF, augI, items, mutKeeps, mutF, pick, List.filterMap_cons, List.filterMap_nil, List.getElem?_cons_zero, List.getElem?_cons_succ, List.getElem?_nil, List.length_cons, List.length_nil, List.cons_append, List.nil_append, List.replicate, List.map_cons, List.map_nil, List.set_cons_zero, List.set_cons_succ, List.take_succ_cons, List.take_zero, Option.map_some, Nat.le_refl, Nat.zero_add, Nat.reduceAdd, Nat.reduceSub, Nat.reduceLeDiff, Nat.reduceEqDiff, if_true, if_false, Bool.false_eq_true, reduceIte, List.nodup_nil, List.nodup_cons, List.not_mem_nil, not_false_eq_true, and_true, true_and, List.mem_cons, or_false, or_self, forall_eq, forall_eq_or_imp,  Nat.le_add_left, Nat.zero_le, q_add, q_sub, q_neg, q_no, q_eq, q_ne, q_lt, q_le, q_gt, q_ge, q_toInt, q_abs, q_max2, q_lenL, q_lenS, q_lenT, q_ixL, q_ixT, q_ixS, q_isi_ii, q_isi_bi, q_isi_ib, q_isi_bb, q_isi_tt, q_isi_ll, q_isi_lt, q_isi_tl, q_isN_n, q_isN_t, q_isN_i, q_notN_n, q_notN_t, q_notN_i, q_eqS, q_neS, q_all, q_any, q_sum, q_tuple, q_listT, q_listL, q_idI, q_gcd, q_min2, q_isB, q_notB, Bool.not_true, Bool.not_false, Bool.not_not, at1_0, ixN1_0, at2_0, ixN2_0, at2_1, ixN2_1, at3_0, ixN3_0, at3_1, ixN3_1, at3_2, ixN3_2, at4_0, ixN4_0, at4_1, ixN4_1, at4_2, ixN4_2, at4_3, ixN4_3, at5_0, ixN5_0, at5_1, ixN5_1, at5_2, ixN5_2, at5_3, ixN5_3, at5_4, ixN5_4, at6_0, ixN6_0, at6_1, ixN6_1, at6_2, ixN6_2, at6_3, ixN6_3, at6_4, ixN6_4, at6_5, ixN6_5, ln0, ln1, ln2, ln3, ln4, ln5, ln6, ln7, ln8, ln9, ln10, ln11, ln12, ln13, ln14, ln15, ln16, ln17, ln18, ln19, ln20, ln21, ln22, ln23, ln24, nc0, nc1, nc2, nc3, nc4, nc5, nc6, nc7, nc8, nc9, nc10, nc11, nc12, nc13, nc14, nc15, nc16, false_imp_iff, implies_true, beq_self_eq_true, Int.reduceBEq, Int.reduceLT, Int.reduceLE, decide_true, decide_false, List.all_cons, List.all_nil, List.any_cons, List.any_nil, id_eq, Bool.and_true, Bool.true_and, Bool.and_false, Bool.false_and, Bool.or_true, Bool.true_or, Bool.or_false, Bool.false_or]
  have fin : ∀ (a : Nat) (fu : Nat), 1 < fu → whlN (testF C A9T0) (blockF C Fuel A9W0) fu [s0, s1, s2, .d (.int a), .d (.int (0 : Nat))] = some (.nx [s0, s1, s2, .d (.int (Nat.gcd a 0 : Nat)), .d (.int 0)]) := fun a fu hf => by
    obtain ⟨f, rfl⟩ : ∃ f, fu = f + 1 := ⟨fu - 1, by omega⟩
    rw [whl_false (e1 := [s0, s1, s2, .d (.int a), .d (.int 0)]) (test _ _), Nat.gcd_zero_right]
  intro w
  induction w with
  | zero =>
    intro a b h fu hf
    obtain rfl : b = 0 := by omega
    exact fin a fu (by omega)
  | succ w ih =>
    intro a b h fu hf
    by_cases hb : b = 0
    · subst hb; exact fin a fu (by omega)
    · obtain ⟨f, rfl⟩ : ∃ f, fu = f + 1 := ⟨fu - 1, by omega⟩
      have lt : a % b < b := Nat.mod_lt _ (by omega)
      have hm := q_modP (a := (a : Int)) (b := (b : Int)) (by omega)
      rw [show (a : Int) % (b : Int) = ((a % b : Nat) : Int) by simp] at hm
      have blk : blockF C Fuel A9W0 [s0, s1, s2, .d (.int a), .d (.int b)] = some (.nx [s0, s1, s2, .d (.int b), .d (.int ((a % b : Nat) : Int))]) := by
        unfold blockF A9W0
        simp only [v_var, v_lit, v_op, v_tup, v_lst, v_and, v_or, v_ite, v_chain, v_call, v_comp, v_mut, v_met, vs_nil, vs_cons, x_asg, x_asgT, x_set, x_unp, x_par, x_aug, x_if, x_ifl, frzE_nil, frzE_cons, frzSl_un, frzSl_d, frzSl_own, x_whl, x_for, x_ret, x_retN, x_expr, x_brk, x_cont, x_pass, xs_nil, xs_cons, lockA, unlockA, evCond, rdAs, rdA, boolA, bd, frz, frzs, frzR, slA, slAs, refs, postA, keepA, keepAs, g_nm', g_tp', g_sb', gs_nil', gs_cons', isOwn, isSet, isLs, setAt, putN_eq, fr_d, fr_un, fr_own0, slT, asD, retT, n_nm, n_tp, n_tl, ns_nil, ns_cons, augF, augI, items, mutKeeps, mutF, pick, List.filterMap_cons, List.filterMap_nil, List.getElem?_cons_zero, List.getElem?_cons_succ, List.getElem?_nil, List.length_cons, List.length_nil, List.cons_append, List.nil_append, List.replicate, List.map_cons, List.map_nil, List.set_cons_zero, List.set_cons_succ, List.take_succ_cons, List.take_zero, Option.map_some, Nat.le_refl, Nat.zero_add, Nat.reduceAdd, Nat.reduceSub, Nat.reduceLeDiff, Nat.reduceEqDiff, if_true, if_false, Bool.false_eq_true, reduceIte, List.nodup_nil, List.nodup_cons, List.not_mem_nil, not_false_eq_true, and_true, true_and, List.mem_cons, or_false, or_self, forall_eq, forall_eq_or_imp,  Nat.le_add_left, Nat.zero_le, q_add, q_sub, q_neg, q_no, q_eq, q_ne, q_lt, q_le, q_gt, q_ge, q_toInt, q_abs, q_max2, q_lenL, q_lenS, q_lenT, q_ixL, q_ixT, q_ixS, q_isi_ii, q_isi_bi, q_isi_ib, q_isi_bb, q_isi_tt, q_isi_ll, q_isi_lt, q_isi_tl, q_isN_n, q_isN_t, q_isN_i, q_notN_n, q_notN_t, q_notN_i, q_eqS, q_neS, q_all, q_any, q_sum, q_tuple, q_listT, q_listL, q_idI, q_gcd, q_min2, q_isB, q_notB, Bool.not_true, Bool.not_false, Bool.not_not, at1_0, ixN1_0, at2_0, ixN2_0, at2_1, ixN2_1, at3_0, ixN3_0, at3_1, ixN3_1, at3_2, ixN3_2, at4_0, ixN4_0, at4_1, ixN4_1, at4_2, ixN4_2, at4_3, ixN4_3, at5_0, ixN5_0, at5_1, ixN5_1, at5_2, ixN5_2, at5_3, ixN5_3, at5_4, ixN5_4, at6_0, ixN6_0, at6_1, ixN6_1, at6_2, ixN6_2, at6_3, ixN6_3, at6_4, ixN6_4, at6_5, ixN6_5, ln0, ln1, ln2, ln3, ln4, ln5, ln6, ln7, ln8, ln9, ln10, ln11, ln12, ln13, ln14, ln15, ln16, ln17, ln18, ln19, ln20, ln21, ln22, ln23, ln24, nc0, nc1, nc2, nc3, nc4, nc5, nc6, nc7, nc8, nc9, nc10, nc11, nc12, nc13, nc14, nc15, nc16, false_imp_iff, implies_true, beq_self_eq_true, Int.reduceBEq, Int.reduceLT, Int.reduceLE, decide_true, decide_false, List.all_cons, List.all_nil, List.any_cons, List.any_nil, id_eq, Bool.and_true, Bool.true_and, Bool.and_false, Bool.false_and, Bool.or_true, Bool.true_or, Bool.or_false, Bool.false_or, hm]
      have t1 := test (a : Int) (b : Int)
      rw [decide_eq_true (show (0 : Int) < (b : Int) by omega)] at t1
      rw [whl_true t1 blk, ih b (a % b) (by omega) f (by omega), Nat.gcd_comm a b, Nat.gcd_rec b a, Nat.gcd_comm b (a % b)]
theorem f9 (k : Nat) {a b : Int} (a0 : 0 ≤ a) (b0 : 0 < b) (a1 : a < 2 ^ 120) (b1 : b < 2 ^ 120) : callAt tb (k + 1) 9 [.d (.int a), .d (.int b)] = some (.d (rD (mk a b)), [.d (.int a), .d (.int b)]) := by
  obtain ⟨m, rfl⟩ : ∃ m : Nat, a = (m : Nat) := ⟨a.toNat, by omega⟩
  obtain ⟨n, rfl⟩ : ∃ n : Nat, b = (n : Nat) := ⟨b.toNat, by omega⟩
  have fu : n + 1 < Fuel := by
    unfold Fuel
    have hn : n < 2 ^ 120 := by omega
    have h1 : (2 : Nat) ^ 120 < 2 ^ 1999 := Nat.pow_lt_pow_right (by decide) (by decide)
    have h2 : (2 : Nat) ^ 2000 = 2 * 2 ^ 1999 := by rw [← Nat.pow_succ']
    generalize (2 : Nat) ^ 120 = x at *
    generalize (2 : Nat) ^ 1999 = y at *
    omega
  have lp := low_loop (callAt tb k) (.d (.int m)) (.d (.int n)) .un n m n (Nat.le_refl _) Fuel fu
  have g0 : 0 < Nat.gcd m n := Nat.gcd_pos_of_pos_right _ (by omega)
  have gle : Nat.gcd m n ≤ n := Nat.gcd_le_right _ (by omega)
  have em : mk (m : Int) (n : Int) = ((m : Int) / (Nat.gcd m n : Nat), (n : Int) / (Nat.gcd m n : Nat)) := by
    unfold mk
    rw [if_pos b0, Int.mul_one, Int.fdiv_eq_ediv_of_nonneg _ (by omega), Int.fdiv_eq_ediv_of_nonneg _ (by omega)]
    rfl
  have ea : (if (m : Int) < 0 then -(m : Int) else m) = m := if_neg (by omega)
  have eb : (if (n : Int) < 0 then -(n : Int) else n) = n := if_neg (by omega)
  have q0 := q_mulB (a := 1) (b := (m : Int)) (by decide) (by omega)
  rw [Int.one_mul] at q0
  have q1 := q_divP (a := (m : Int)) (b := ((Nat.gcd m n : Nat) : Int)) (by omega) (by omega)
  have q2 := q_divP (a := (n : Int)) (b := ((Nat.gcd m n : Nat) : Int)) (by omega) (by omega)
  rw [em]
  show _ = some (T.d (.tup [.int ((m : Int) / ((Nat.gcd m n : Nat) : Int)), .int ((n : Int) / ((Nat.gcd m n : Nat) : Int))]), _)
  generalize (m : Int) / ((Nat.gcd m n : Nat) : Int) = X at *
  generalize (n : Int) / ((Nat.gcd m n : Nat) : Int) = Y at *
  generalize ((Nat.gcd m n : Nat) : Int) = G at *
  have hn : decide ((0 : Int) < (n : Int)) = true := decide_eq_true b0
  generalize (m : Int) = M at *
  generalize (n : Int) = N at *
  refine call_ret (env0 := [.d (.int M), .d (.int N), .un, .un, .un]) h9 rfl rfl rfl (env := [.d (.int M), .d (.int N), .d (.int 1), .d (.int G), .d (.int 0)]) ?_
  rw [A9_body]
  unfold A90
  refine (xs_step (by simp only [v_var, v_lit, v_op, v_tup, v_lst, v_and, v_or, v_ite, v_chain, v_call, v_comp, v_mut, v_met, vs_nil, vs_cons, x_asg, x_asgT, x_set, x_unp, x_par, x_aug, x_if, x_ifl, frzE_nil, frzE_cons, frzSl_un, frzSl_d, frzSl_own, x_whl, x_for, x_ret, x_retN, x_expr, x_brk, x_cont, x_pass, xs_nil, xs_cons, lockA, unlockA, evCond, rdAs, rdA, boolA, bd, frz, frzs, frzR, slA, slAs, refs, postA, keepA, keepAs, g_nm', g_tp', g_sb', gs_nil', gs_cons', isOwn, isSet, isLs, setAt, putN_eq, fr_d, fr_un, fr_own0, slT, asD, retT, n_nm, n_tp, n_tl, ns_nil, ns_cons, augF, augI, items, mutKeeps, mutF, pick, List.filterMap_cons, List.filterMap_nil, List.getElem?_cons_zero, List.getElem?_cons_succ, List.getElem?_nil, List.length_cons, List.length_nil, List.cons_append, List.nil_append, List.replicate, List.map_cons, List.map_nil, List.set_cons_zero, List.set_cons_succ, List.take_succ_cons, List.take_zero, Option.map_some, Nat.le_refl, Nat.zero_add, Nat.reduceAdd, Nat.reduceSub, Nat.reduceLeDiff, Nat.reduceEqDiff, if_true, if_false, Bool.false_eq_true, reduceIte, List.nodup_nil, List.nodup_cons, List.not_mem_nil, not_false_eq_true, and_true, true_and, List.mem_cons, or_false, or_self, forall_eq, forall_eq_or_imp,  Nat.le_add_left, Nat.zero_le, q_add, q_sub, q_neg, q_no, q_eq, q_ne, q_lt, q_le, q_gt, q_ge, q_toInt, q_abs, q_max2, q_lenL, q_lenS, q_lenT, q_ixL, q_ixT, q_ixS, q_isi_ii, q_isi_bi, q_isi_ib, q_isi_bb, q_isi_tt, q_isi_ll, q_isi_lt, q_isi_tl, q_isN_n, q_isN_t, q_isN_i, q_notN_n, q_notN_t, q_notN_i, q_eqS, q_neS, q_all, q_any, q_sum, q_tuple, q_listT, q_listL, q_idI, q_gcd, q_min2, q_isB, q_notB, Bool.not_true, Bool.not_false, Bool.not_not, at1_0, ixN1_0, at2_0, ixN2_0, at2_1, ixN2_1, at3_0, ixN3_0, at3_1, ixN3_1, at3_2, ixN3_2, at4_0, ixN4_0, at4_1, ixN4_1, at4_2, ixN4_2, at4_3, ixN4_3, at5_0, ixN5_0, at5_1, ixN5_1, at5_2, ixN5_2, at5_3, ixN5_3, at5_4, ixN5_4, at6_0, ixN6_0, at6_1, ixN6_1, at6_2, ixN6_2, at6_3, ixN6_3, at6_4, ixN6_4, at6_5, ixN6_5, ln0, ln1, ln2, ln3, ln4, ln5, ln6, ln7, ln8, ln9, ln10, ln11, ln12, ln13, ln14, ln15, ln16, ln17, ln18, ln19, ln20, ln21, ln22, ln23, ln24, nc0, nc1, nc2, nc3, nc4, nc5, nc6, nc7, nc8, nc9, nc10, nc11, nc12, nc13, nc14, nc15, nc16, false_imp_iff, implies_true, beq_self_eq_true, Int.reduceBEq, Int.reduceLT, Int.reduceLE, decide_true, decide_false, List.all_cons, List.all_nil, List.any_cons, List.any_nil, id_eq, Bool.and_true, Bool.true_and, Bool.and_false, Bool.false_and, Bool.or_true, Bool.true_or, Bool.or_false, Bool.false_or, ea, eb]; with_reducible rfl)).trans ?_
  unfold A91
  refine (xs_step (by simp only [v_var, v_lit, v_op, v_tup, v_lst, v_and, v_or, v_ite, v_chain, v_call, v_comp, v_mut, v_met, vs_nil, vs_cons, x_asg, x_asgT, x_set, x_unp, x_par, x_aug, x_if, x_ifl, frzE_nil, frzE_cons, frzSl_un, frzSl_d, frzSl_own, x_whl, x_for, x_ret, x_retN, x_expr, x_brk, x_cont, x_pass, xs_nil, xs_cons, lockA, unlockA, evCond, rdAs, rdA, boolA, bd, frz, frzs, frzR, slA, slAs, refs, postA, keepA, keepAs, g_nm', g_tp', g_sb', gs_nil', gs_cons', isOwn, isSet, isLs, setAt, putN_eq, fr_d, fr_un, fr_own0, slT, asD, retT, n_nm, n_tp, n_tl, ns_nil, ns_cons, augF, augI, items, mutKeeps, mutF, pick, List.filterMap_cons, List.filterMap_nil, List.getElem?_cons_zero, List.getElem?_cons_succ, List.getElem?_nil, List.length_cons, List.length_nil, List.cons_append, List.nil_append, List.replicate, List.map_cons, List.map_nil, List.set_cons_zero, List.set_cons_succ, List.take_succ_cons, List.take_zero, Option.map_some, Nat.le_refl, Nat.zero_add, Nat.reduceAdd, Nat.reduceSub, Nat.reduceLeDiff, Nat.reduceEqDiff, if_true, if_false, Bool.false_eq_true, reduceIte, List.nodup_nil, List.nodup_cons, List.not_mem_nil, not_false_eq_true, and_true, true_and, List.mem_cons, or_false, or_self, forall_eq, forall_eq_or_imp,  Nat.le_add_left, Nat.zero_le, q_add, q_sub, q_neg, q_no, q_eq, q_ne, q_lt, q_le, q_gt, q_ge, q_toInt, q_abs, q_max2, q_lenL, q_lenS, q_lenT, q_ixL, q_ixT, q_ixS, q_isi_ii, q_isi_bi, q_isi_ib, q_isi_bb, q_isi_tt, q_isi_ll, q_isi_lt, q_isi_tl, q_isN_n, q_isN_t, q_isN_i, q_notN_n, q_notN_t, q_notN_i, q_eqS, q_neS, q_all, q_any, q_sum, q_tuple, q_listT, q_listL, q_idI, q_gcd, q_min2, q_isB, q_notB, Bool.not_true, Bool.not_false, Bool.not_not, at1_0, ixN1_0, at2_0, ixN2_0, at2_1, ixN2_1, at3_0, ixN3_0, at3_1, ixN3_1, at3_2, ixN3_2, at4_0, ixN4_0, at4_1, ixN4_1, at4_2, ixN4_2, at4_3, ixN4_3, at5_0, ixN5_0, at5_1, ixN5_1, at5_2, ixN5_2, at5_3, ixN5_3, at5_4, ixN5_4, at6_0, ixN6_0, at6_1, ixN6_1, at6_2, ixN6_2, at6_3, ixN6_3, at6_4, ixN6_4, at6_5, ixN6_5, ln0, ln1, ln2, ln3, ln4, ln5, ln6, ln7, ln8, ln9, ln10, ln11, ln12, ln13, ln14, ln15, ln16, ln17, ln18, ln19, ln20, ln21, ln22, ln23, ln24, nc0, nc1, nc2, nc3, nc4, nc5, nc6, nc7, nc8, nc9, nc10, nc11, nc12, nc13, nc14, nc15, nc16, false_imp_iff, implies_true, beq_self_eq_true, Int.reduceBEq, Int.reduceLT, Int.reduceLE, decide_true, decide_false, List.all_cons, List.all_nil, List.any_cons, List.any_nil, id_eq, Bool.and_true, Bool.true_and, Bool.and_false, Bool.false_and, Bool.or_true, Bool.true_or, Bool.or_false, Bool.false_or, lp]; with_reducible rfl)).trans ?_
  unfold A92
  refine (xs_step (by simp only [v_var, v_lit, v_op, v_tup, v_lst, v_and, v_or, v_ite, v_chain, v_call, v_comp, v_mut, v_met, vs_nil, vs_cons, x_asg, x_asgT, x_set, x_unp, x_par, x_aug, x_if, x_ifl, frzE_nil, frzE_cons, frzSl_un, frzSl_d, frzSl_own, x_whl, x_for, x_ret, x_retN, x_expr, x_brk, x_cont, x_pass, xs_nil, xs_cons, lockA, unlockA, evCond, rdAs, rdA, boolA, bd, frz, frzs, frzR, slA, slAs, refs, postA, keepA, keepAs, g_nm', g_tp', g_sb', gs_nil', gs_cons', isOwn, isSet, isLs, setAt, putN_eq, fr_d, fr_un, fr_own0, slT, asD, retT, n_nm, n_tp, n_tl, ns_nil, ns_cons, augF, augI, items, mutKeeps, mutF, pick, List.filterMap_cons, List.filterMap_nil, List.getElem?_cons_zero, List.getElem?_cons_succ, List.getElem?_nil, List.length_cons, List.length_nil, List.cons_append, List.nil_append, List.replicate, List.map_cons, List.map_nil, List.set_cons_zero, List.set_cons_succ, List.take_succ_cons, List.take_zero, Option.map_some, Nat.le_refl, Nat.zero_add, Nat.reduceAdd, Nat.reduceSub, Nat.reduceLeDiff, Nat.reduceEqDiff, if_true, if_false, Bool.false_eq_true, reduceIte, List.nodup_nil, List.nodup_cons, List.not_mem_nil, not_false_eq_true, and_true, true_and, List.mem_cons, or_false, or_self, forall_eq, forall_eq_or_imp,  Nat.le_add_left, Nat.zero_le, q_add, q_sub, q_neg, q_no, q_eq, q_ne, q_lt, q_le, q_gt, q_ge, q_toInt, q_abs, q_max2, q_lenL, q_lenS, q_lenT, q_ixL, q_ixT, q_ixS, q_isi_ii, q_isi_bi, q_isi_ib, q_isi_bb, q_isi_tt, q_isi_ll, q_isi_lt, q_isi_tl, q_isN_n, q_isN_t, q_isN_i, q_notN_n, q_notN_t, q_notN_i, q_eqS, q_neS, q_all, q_any, q_sum, q_tuple, q_listT, q_listL, q_idI, q_gcd, q_min2, q_isB, q_notB, Bool.not_true, Bool.not_false, Bool.not_not, at1_0, ixN1_0, at2_0, ixN2_0, at2_1, ixN2_1, at3_0, ixN3_0, at3_1, ixN3_1, at3_2, ixN3_2, at4_0, ixN4_0, at4_1, ixN4_1, at4_2, ixN4_2, at4_3, ixN4_3, at5_0, ixN5_0, at5_1, ixN5_1, at5_2, ixN5_2, at5_3, ixN5_3, at5_4, ixN5_4, at6_0, ixN6_0, at6_1, ixN6_1, at6_2, ixN6_2, at6_3, ixN6_3, at6_4, ixN6_4, at6_5, ixN6_5, ln0, ln1, ln2, ln3, ln4, ln5, ln6, ln7, ln8, ln9, ln10, ln11, ln12, ln13, ln14, ln15, ln16, ln17, ln18, ln19, ln20, ln21, ln22, ln23, ln24, nc0, nc1, nc2, nc3, nc4, nc5, nc6, nc7, nc8, nc9, nc10, nc11, nc12, nc13, nc14, nc15, nc16, false_imp_iff, implies_true, beq_self_eq_true, Int.reduceBEq, Int.reduceLT, Int.reduceLE, decide_true, decide_false, List.all_cons, List.all_nil, List.any_cons, List.any_nil, id_eq, Bool.and_true, Bool.true_and, Bool.and_false, Bool.false_and, Bool.or_true, Bool.true_or, Bool.or_false, Bool.false_or, hn]; with_reducible rfl)).trans ?_
  unfold A93
  exact xs_ret (by simp only [v_var, v_lit, v_op, v_tup, v_lst, v_and, v_or, v_ite, v_chain, v_call, v_comp, v_mut, v_met, vs_nil, vs_cons, x_asg, x_asgT, x_set, x_unp, x_par, x_aug, x_if, x_ifl, frzE_nil, frzE_cons, frzSl_un, frzSl_d, frzSl_own, x_whl, x_for, x_ret, x_retN, x_expr, x_brk, x_cont, x_pass, xs_nil, xs_cons, lockA, unlockA, evCond, rdAs, rdA, boolA, bd, frz, frzs, frzR, slA, slAs, refs, postA, keepA, keepAs, g_nm', g_tp', g_sb', gs_nil', gs_cons', isOwn, isSet, isLs, setAt, putN_eq, fr_d, fr_un, fr_own0, slT, asD, retT, n_nm, n_tp, n_tl, ns_nil, ns_cons, augF, augI, items, mutKeeps, mutF, pick, List.filterMap_cons, List.filterMap_nil, List.getElem?_cons_zero, List.getElem?_cons_succ, List.getElem?_nil, List.length_cons, List.length_nil, List.cons_append, List.nil_append, List.replicate, List.map_cons, List.map_nil, List.set_cons_zero, List.set_cons_succ, List.take_succ_cons, List.take_zero, Option.map_some, Nat.le_refl, Nat.zero_add, Nat.reduceAdd, Nat.reduceSub, Nat.reduceLeDiff, Nat.reduceEqDiff, if_true, if_false, Bool.false_eq_true, reduceIte, List.nodup_nil, List.nodup_cons, List.not_mem_nil, not_false_eq_true, and_true, true_and, List.mem_cons, or_false, or_self, forall_eq, forall_eq_or_imp,  Nat.le_add_left, Nat.zero_le, q_add, q_sub, q_neg, q_no, q_eq, q_ne, q_lt, q_le, q_gt, q_ge, q_toInt, q_abs, q_max2, q_lenL, q_lenS, q_lenT, q_ixL, q_ixT, q_ixS, q_isi_ii, q_isi_bi, q_isi_ib, q_isi_bb, q_isi_tt, q_isi_ll, q_isi_lt, q_isi_tl, q_isN_n, q_isN_t, q_isN_i, q_notN_n, q_notN_t, q_notN_i, q_eqS, q_neS, q_all, q_any, q_sum, q_tuple, q_listT, q_listL, q_idI, q_gcd, q_min2, q_isB, q_notB, Bool.not_true, Bool.not_false, Bool.not_not, at1_0, ixN1_0, at2_0, ixN2_0, at2_1, ixN2_1, at3_0, ixN3_0, at3_1, ixN3_1, at3_2, ixN3_2, at4_0, ixN4_0, at4_1, ixN4_1, at4_2, ixN4_2, at4_3, ixN4_3, at5_0, ixN5_0, at5_1, ixN5_1, at5_2, ixN5_2, at5_3, ixN5_3, at5_4, ixN5_4, at6_0, ixN6_0, at6_1, ixN6_1, at6_2, ixN6_2, at6_3, ixN6_3, at6_4, ixN6_4, at6_5, ixN6_5, ln0, ln1, ln2, ln3, ln4, ln5, ln6, ln7, ln8, ln9, ln10, ln11, ln12, ln13, ln14, ln15, ln16, ln17, ln18, ln19, ln20, ln21, ln22, ln23, ln24, nc0, nc1, nc2, nc3, nc4, nc5, nc6, nc7, nc8, nc9, nc10, nc11, nc12, nc13, nc14, nc15, nc16, false_imp_iff, implies_true, beq_self_eq_true, Int.reduceBEq, Int.reduceLT, Int.reduceLE, decide_true, decide_false, List.all_cons, List.all_nil, List.any_cons, List.any_nil, id_eq, Bool.and_true, Bool.true_and, Bool.and_false, Bool.false_and, Bool.or_true, Bool.true_or, Bool.or_false, Bool.false_or, eb, q0, q1, q2])
theorem f10 (k : Nat) {p q : Int × Int} {x y : Int} (m1 : opF .mul [.int p.1, .int q.2] = some (.d (.int x))) (m2 : opF .mul [.int q.1, .int p.2] = some (.d (.int y))) : callAt tb (k + 1) 10 [.d (rD p), .d (rD q)] = some (.d (.bl (decide (x < y))), [.d (rD p), .d (rD q)]) := by
  rw [cS, h10, bd]
  unfold t_law_below_10 runF rD
  simp only [v_var, v_lit, v_op, v_tup, v_lst, v_and, v_or, v_ite, v_chain, v_call, v_comp, v_mut, v_met, vs_nil, vs_cons, x_asg, x_asgT, x_set, x_unp, x_par, x_aug, x_if, x_ifl, frzE_nil, frzE_cons, frzSl_un, frzSl_d, frzSl_own, x_whl, x_for, x_ret, x_retN, x_expr, x_brk, x_cont, x_pass, xs_nil, xs_cons, lockA, unlockA, evCond, rdAs, rdA, boolA, bd, frz, frzs, frzR, slA, slAs, refs, postA, keepA, keepAs, g_nm', g_tp', g_sb', gs_nil', gs_cons', isOwn, isSet, isLs, setAt, putN_eq, fr_d, fr_un, fr_own0, slT, asD, retT, n_nm, n_tp, n_tl, ns_nil, ns_cons, augF, augI, items, mutKeeps, mutF, pick, List.filterMap_cons, List.filterMap_nil, List.getElem?_cons_zero, List.getElem?_cons_succ, List.getElem?_nil, List.length_cons, List.length_nil, List.cons_append, List.nil_append, List.replicate, List.map_cons, List.map_nil, List.set_cons_zero, List.set_cons_succ, List.take_succ_cons, List.take_zero, Option.map_some, Nat.le_refl, Nat.zero_add, Nat.reduceAdd, Nat.reduceSub, Nat.reduceLeDiff, Nat.reduceEqDiff, if_true, if_false, Bool.false_eq_true, reduceIte, List.nodup_nil, List.nodup_cons, List.not_mem_nil, not_false_eq_true, and_true, true_and, List.mem_cons, or_false, or_self, forall_eq, forall_eq_or_imp,  Nat.le_add_left, Nat.zero_le, q_add, q_sub, q_neg, q_no, q_eq, q_ne, q_lt, q_le, q_gt, q_ge, q_toInt, q_abs, q_max2, q_lenL, q_lenS, q_lenT, q_ixL, q_ixT, q_ixS, q_isi_ii, q_isi_bi, q_isi_ib, q_isi_bb, q_isi_tt, q_isi_ll, q_isi_lt, q_isi_tl, q_isN_n, q_isN_t, q_isN_i, q_notN_n, q_notN_t, q_notN_i, q_eqS, q_neS, q_all, q_any, q_sum, q_tuple, q_listT, q_listL, q_idI, q_gcd, q_min2, q_isB, q_notB, Bool.not_true, Bool.not_false, Bool.not_not, at1_0, ixN1_0, at2_0, ixN2_0, at2_1, ixN2_1, at3_0, ixN3_0, at3_1, ixN3_1, at3_2, ixN3_2, at4_0, ixN4_0, at4_1, ixN4_1, at4_2, ixN4_2, at4_3, ixN4_3, at5_0, ixN5_0, at5_1, ixN5_1, at5_2, ixN5_2, at5_3, ixN5_3, at5_4, ixN5_4, at6_0, ixN6_0, at6_1, ixN6_1, at6_2, ixN6_2, at6_3, ixN6_3, at6_4, ixN6_4, at6_5, ixN6_5, ln0, ln1, ln2, ln3, ln4, ln5, ln6, ln7, ln8, ln9, ln10, ln11, ln12, ln13, ln14, ln15, ln16, ln17, ln18, ln19, ln20, ln21, ln22, ln23, ln24, nc0, nc1, nc2, nc3, nc4, nc5, nc6, nc7, nc8, nc9, nc10, nc11, nc12, nc13, nc14, nc15, nc16, false_imp_iff, implies_true, beq_self_eq_true, Int.reduceBEq, Int.reduceLT, Int.reduceLE, decide_true, decide_false, List.all_cons, List.all_nil, List.any_cons, List.any_nil, id_eq, Bool.and_true, Bool.true_and, Bool.and_false, Bool.false_and, Bool.or_true, Bool.true_or, Bool.or_false, Bool.false_or, m1, m2]
theorem f12 (k : Nat) {l r : Int × Int} {K : Int} (h : Nb l r K) (hK : K < 2 ^ 60) {x y : Int} (x0 : 0 ≤ x) (y0 : 0 ≤ y) (x1 : x < 2 ^ 40) (y1 : y < 2 ^ 40) : callAt tb (k + 1) 12 [.d (rD l), .d (rD r), .d (.int x), .d (.int y)] = some (.d (rD (pt l r (x, y))), [.d (rD l), .d (rD r), .d (.int x), .d (.int y)]) := by
  obtain ⟨k1, k2, k3, k4⟩ : l.1 < 2 ^ 60 ∧ l.2 < 2 ^ 60 ∧ r.1 < 2 ^ 60 ∧ r.2 < 2 ^ 60 := ⟨by have := h.ka; omega, by have := h.kb; omega, by have := h.kc; omega, by have := h.kd; omega⟩
  have a0 := h.a0
  have b1 := h.b1
  have c1 := h.c1
  have d0 := h.d0
  have m1 := q_mulB (a := x) (b := l.1) (by omega) (by omega)
  have m2 := q_mulB (a := y) (b := r.1) (by omega) (by omega)
  have m3 := q_mulB (a := x) (b := l.2) (by omega) (by omega)
  have m4 := q_mulB (a := y) (b := r.2) (by omega) (by omega)
  rw [cS, h12, bd]
  unfold t_law_put_12 runF rD pt
  simp only [v_var, v_lit, v_op, v_tup, v_lst, v_and, v_or, v_ite, v_chain, v_call, v_comp, v_mut, v_met, vs_nil, vs_cons, x_asg, x_asgT, x_set, x_unp, x_par, x_aug, x_if, x_ifl, frzE_nil, frzE_cons, frzSl_un, frzSl_d, frzSl_own, x_whl, x_for, x_ret, x_retN, x_expr, x_brk, x_cont, x_pass, xs_nil, xs_cons, lockA, unlockA, evCond, rdAs, rdA, boolA, bd, frz, frzs, frzR, slA, slAs, refs, postA, keepA, keepAs, g_nm', g_tp', g_sb', gs_nil', gs_cons', isOwn, isSet, isLs, setAt, putN_eq, fr_d, fr_un, fr_own0, slT, asD, retT, n_nm, n_tp, n_tl, ns_nil, ns_cons, augF, augI, items, mutKeeps, mutF, pick, List.filterMap_cons, List.filterMap_nil, List.getElem?_cons_zero, List.getElem?_cons_succ, List.getElem?_nil, List.length_cons, List.length_nil, List.cons_append, List.nil_append, List.replicate, List.map_cons, List.map_nil, List.set_cons_zero, List.set_cons_succ, List.take_succ_cons, List.take_zero, Option.map_some, Nat.le_refl, Nat.zero_add, Nat.reduceAdd, Nat.reduceSub, Nat.reduceLeDiff, Nat.reduceEqDiff, if_true, if_false, Bool.false_eq_true, reduceIte, List.nodup_nil, List.nodup_cons, List.not_mem_nil, not_false_eq_true, and_true, true_and, List.mem_cons, or_false, or_self, forall_eq, forall_eq_or_imp,  Nat.le_add_left, Nat.zero_le, q_add, q_sub, q_neg, q_no, q_eq, q_ne, q_lt, q_le, q_gt, q_ge, q_toInt, q_abs, q_max2, q_lenL, q_lenS, q_lenT, q_ixL, q_ixT, q_ixS, q_isi_ii, q_isi_bi, q_isi_ib, q_isi_bb, q_isi_tt, q_isi_ll, q_isi_lt, q_isi_tl, q_isN_n, q_isN_t, q_isN_i, q_notN_n, q_notN_t, q_notN_i, q_eqS, q_neS, q_all, q_any, q_sum, q_tuple, q_listT, q_listL, q_idI, q_gcd, q_min2, q_isB, q_notB, Bool.not_true, Bool.not_false, Bool.not_not, at1_0, ixN1_0, at2_0, ixN2_0, at2_1, ixN2_1, at3_0, ixN3_0, at3_1, ixN3_1, at3_2, ixN3_2, at4_0, ixN4_0, at4_1, ixN4_1, at4_2, ixN4_2, at4_3, ixN4_3, at5_0, ixN5_0, at5_1, ixN5_1, at5_2, ixN5_2, at5_3, ixN5_3, at5_4, ixN5_4, at6_0, ixN6_0, at6_1, ixN6_1, at6_2, ixN6_2, at6_3, ixN6_3, at6_4, ixN6_4, at6_5, ixN6_5, ln0, ln1, ln2, ln3, ln4, ln5, ln6, ln7, ln8, ln9, ln10, ln11, ln12, ln13, ln14, ln15, ln16, ln17, ln18, ln19, ln20, ln21, ln22, ln23, ln24, nc0, nc1, nc2, nc3, nc4, nc5, nc6, nc7, nc8, nc9, nc10, nc11, nc12, nc13, nc14, nc15, nc16, false_imp_iff, implies_true, beq_self_eq_true, Int.reduceBEq, Int.reduceLT, Int.reduceLE, decide_true, decide_false, List.all_cons, List.all_nil, List.any_cons, List.any_nil, id_eq, Bool.and_true, Bool.true_and, Bool.and_false, Bool.false_and, Bool.or_true, Bool.true_or, Bool.or_false, Bool.false_or, m1, m2, m3, m4]
/-! ### drawn neighbours -/
theorem turn11 {C : Sem0} {P P1 : List D} {n x : D} {a b c d z : Int} {t : Bool} {s2 s5 : Sl} (g2 : frS (some s2) = true) (g5 : frS (some s5) = true) (e : C 7 [.own P 1, .d (.int 2)] = some (.d (.int z), [.own P1 1, .d (.int 2)])) (hz : (z == 0) = t) :
    turnF C Fuel (.nm 2) A11L0 x [.own P 1, .d n, s2, .d (.tup [.int a, .int b]), .d (.tup [.int c, .int d]), s5] = some (.nx [.own P1 1, .d n, .d x, .d (.tup [.int (if t = true then a + c else a), .int (if t = true then b + d else b)]), .d (.tup [.int (if t = true then c else a + c), .int (if t = true then d else b + d)]), .d (.tup [.int (a + c), .int (b + d)])]) := by
  cases t with
  | true =>
    unfold turnF A11L0
    simp only [v_var, v_lit, v_op, v_tup, v_lst, v_and, v_or, v_ite, v_chain, v_call, v_comp, v_mut, v_met, vs_nil, vs_cons, x_asg, x_asgT, x_set, x_unp, x_par, x_aug, x_if, x_ifl, frzE_nil, frzE_cons, frzSl_un, frzSl_d, frzSl_own, x_whl, x_for, x_ret, x_retN, x_expr, x_brk, x_cont, x_pass, xs_nil, xs_cons, lockA, unlockA, evCond, rdAs, rdA, boolA, bd, frz, frzs, frzR, slA, slAs, refs, postA, keepA, keepAs, g_nm', g_tp', g_sb', gs_nil', gs_cons', isOwn, isSet, isLs, setAt, putN_eq, fr_d, fr_un, fr_own0, slT, asD, retT, n_nm, n_tp, n_tl, ns_nil, ns_cons, augF, augI, items, mutKeeps, mutF, pick, List.filterMap_cons, List.filterMap_nil, List.getElem?_cons_zero, List.getElem?_cons_succ, List.getElem?_nil, List.length_cons, List.length_nil, List.cons_append, List.nil_append, List.replicate, List.map_cons, List.map_nil, List.set_cons_zero, List.set_cons_succ, List.take_succ_cons, List.take_zero, Option.map_some, Nat.le_refl, Nat.zero_add, Nat.reduceAdd, Nat.reduceSub, Nat.reduceLeDiff, Nat.reduceEqDiff, if_true, if_false, Bool.false_eq_true, reduceIte, List.nodup_nil, List.nodup_cons, List.not_mem_nil, not_false_eq_true, and_true, true_and, List.mem_cons, or_false, or_self, forall_eq, forall_eq_or_imp,  Nat.le_add_left, Nat.zero_le, q_add, q_sub, q_neg, q_no, q_eq, q_ne, q_lt, q_le, q_gt, q_ge, q_toInt, q_abs, q_max2, q_lenL, q_lenS, q_lenT, q_ixL, q_ixT, q_ixS, q_isi_ii, q_isi_bi, q_isi_ib, q_isi_bb, q_isi_tt, q_isi_ll, q_isi_lt, q_isi_tl, q_isN_n, q_isN_t, q_isN_i, q_notN_n, q_notN_t, q_notN_i, q_eqS, q_neS, q_all, q_any, q_sum, q_tuple, q_listT, q_listL, q_idI, q_gcd, q_min2, q_isB, q_notB, Bool.not_true, Bool.not_false, Bool.not_not, at1_0, ixN1_0, at2_0, ixN2_0, at2_1, ixN2_1, at3_0, ixN3_0, at3_1, ixN3_1, at3_2, ixN3_2, at4_0, ixN4_0, at4_1, ixN4_1, at4_2, ixN4_2, at4_3, ixN4_3, at5_0, ixN5_0, at5_1, ixN5_1, at5_2, ixN5_2, at5_3, ixN5_3, at5_4, ixN5_4, at6_0, ixN6_0, at6_1, ixN6_1, at6_2, ixN6_2, at6_3, ixN6_3, at6_4, ixN6_4, at6_5, ixN6_5, ln0, ln1, ln2, ln3, ln4, ln5, ln6, ln7, ln8, ln9, ln10, ln11, ln12, ln13, ln14, ln15, ln16, ln17, ln18, ln19, ln20, ln21, ln22, ln23, ln24, nc0, nc1, nc2, nc3, nc4, nc5, nc6, nc7, nc8, nc9, nc10, nc11, nc12, nc13, nc14, nc15, nc16, false_imp_iff, implies_true, beq_self_eq_true, Int.reduceBEq, Int.reduceLT, Int.reduceLE, decide_true, decide_false, List.all_cons, List.all_nil, List.any_cons, List.any_nil, id_eq, Bool.and_true, Bool.true_and, Bool.and_false, Bool.false_and, Bool.or_true, Bool.true_or, Bool.or_false, Bool.false_or, g2, g5, e, hz]
  | false =>
    unfold turnF A11L0
    simp only [v_var, v_lit, v_op, v_tup, v_lst, v_and, v_or, v_ite, v_chain, v_call, v_comp, v_mut, v_met, vs_nil, vs_cons, x_asg, x_asgT, x_set, x_unp, x_par, x_aug, x_if, x_ifl, frzE_nil, frzE_cons, frzSl_un, frzSl_d, frzSl_own, x_whl, x_for, x_ret, x_retN, x_expr, x_brk, x_cont, x_pass, xs_nil, xs_cons, lockA, unlockA, evCond, rdAs, rdA, boolA, bd, frz, frzs, frzR, slA, slAs, refs, postA, keepA, keepAs, g_nm', g_tp', g_sb', gs_nil', gs_cons', isOwn, isSet, isLs, setAt, putN_eq, fr_d, fr_un, fr_own0, slT, asD, retT, n_nm, n_tp, n_tl, ns_nil, ns_cons, augF, augI, items, mutKeeps, mutF, pick, List.filterMap_cons, List.filterMap_nil, List.getElem?_cons_zero, List.getElem?_cons_succ, List.getElem?_nil, List.length_cons, List.length_nil, List.cons_append, List.nil_append, List.replicate, List.map_cons, List.map_nil, List.set_cons_zero, List.set_cons_succ, List.take_succ_cons, List.take_zero, Option.map_some, Nat.le_refl, Nat.zero_add, Nat.reduceAdd, Nat.reduceSub, Nat.reduceLeDiff, Nat.reduceEqDiff, if_true, if_false, Bool.false_eq_true, reduceIte, List.nodup_nil, List.nodup_cons, List.not_mem_nil, not_false_eq_true, and_true, true_and, List.mem_cons, or_false, or_self, forall_eq, forall_eq_or_imp,  Nat.le_add_left, Nat.zero_le, q_add, q_sub, q_neg, q_no, q_eq, q_ne, q_lt, q_le, q_gt, q_ge, q_toInt, q_abs, q_max2, q_lenL, q_lenS, q_lenT, q_ixL, q_ixT, q_ixS, q_isi_ii, q_isi_bi, q_isi_ib, q_isi_bb, q_isi_tt, q_isi_ll, q_isi_lt, q_isi_tl, q_isN_n, q_isN_t, q_isN_i, q_notN_n, q_notN_t, q_notN_i, q_eqS, q_neS, q_all, q_any, q_sum, q_tuple, q_listT, q_listL, q_idI, q_gcd, q_min2, q_isB, q_notB, Bool.not_true, Bool.not_false, Bool.not_not, at1_0, ixN1_0, at2_0, ixN2_0, at2_1, ixN2_1, at3_0, ixN3_0, at3_1, ixN3_1, at3_2, ixN3_2, at4_0, ixN4_0, at4_1, ixN4_1, at4_2, ixN4_2, at4_3, ixN4_3, at5_0, ixN5_0, at5_1, ixN5_1, at5_2, ixN5_2, at5_3, ixN5_3, at5_4, ixN5_4, at6_0, ixN6_0, at6_1, ixN6_1, at6_2, ixN6_2, at6_3, ixN6_3, at6_4, ixN6_4, at6_5, ixN6_5, ln0, ln1, ln2, ln3, ln4, ln5, ln6, ln7, ln8, ln9, ln10, ln11, ln12, ln13, ln14, ln15, ln16, ln17, ln18, ln19, ln20, ln21, ln22, ln23, ln24, nc0, nc1, nc2, nc3, nc4, nc5, nc6, nc7, nc8, nc9, nc10, nc11, nc12, nc13, nc14, nc15, nc16, false_imp_iff, implies_true, beq_self_eq_true, Int.reduceBEq, Int.reduceLT, Int.reduceLE, decide_true, decide_false, List.all_cons, List.all_nil, List.any_cons, List.any_nil, id_eq, Bool.and_true, Bool.true_and, Bool.and_false, Bool.false_and, Bool.or_true, Bool.true_or, Bool.or_false, Bool.false_or, g2, g5, e, hz]
theorem loop11 (k : Nat) (n : D) : ∀ (ds : List D) {P : List D} (hP : PotOk P) {l r : Int × Int} {K : Int} (h : Nb l r K) {s2 s5 : Sl}, frS (some s2) = true → frS (some s5) = true →
    ∃ P' l' r' t2 t5, PotOk P' ∧ Nb l' r' (2 ^ ds.length * K) ∧ forL (turnF (callAt tb (k + 1)) Fuel (.nm 2) A11L0) ds [.own P 1, .d n, s2, .d (rD l), .d (rD r), s5] = some (.nx [.own P' 1, .d n, t2, .d (rD l'), .d (rD r'), t5])
  | [], P, hP, l, r, K, h, s2, s5, _, _ => ⟨P, l, r, s2, s5, hP, by simpa using h, rfl⟩
  | x :: ds, P, hP, l, r, K, h, s2, s5, g2, g5 => by
    obtain ⟨z, P1, hP1, z0, z1, e⟩ := draw7 k hP (m := 2) (by decide) (by decide)
    have pw : (2 : Int) ^ (x :: ds).length * K = 2 ^ ds.length * (2 * K) := by
      rw [List.length_cons, Int.pow_succ, Int.mul_assoc]
    by_cases c : z = 0
    · have T := turn11 (C := callAt tb (k + 1)) (n := n) (x := x) (a := l.1) (b := l.2) (c := r.1) (d := r.2) (t := true) g2 g5 e (by rw [c]; rfl)
      obtain ⟨P', l', r', t2, t5, hP', h', e'⟩ := loop11 k n ds hP1 h.left (s2 := .d x) (s5 := .d (.tup [.int (l.1 + r.1), .int (l.2 + r.2)])) (fr_d _) (fr_d _)
      refine ⟨P', l', r', t2, t5, hP', by rw [pw]; exact h', (for_cons T).trans e'⟩
    · have T := turn11 (C := callAt tb (k + 1)) (n := n) (x := x) (a := l.1) (b := l.2) (c := r.1) (d := r.2) (t := false) g2 g5 e (by rw [beq_eq_false_iff_ne]; exact c)
      obtain ⟨P', l', r', t2, t5, hP', h', e'⟩ := loop11 k n ds hP1 h.right (s2 := .d x) (s5 := .d (.tup [.int (l.1 + r.1), .int (l.2 + r.2)])) (fr_d _) (fr_d _)
      refine ⟨P', l', r', t2, t5, hP', by rw [pw]; exact h', (for_cons T).trans e'⟩
theorem f11 (k : Nat) {P : List D} (hP : PotOk P) {n : Int} (n0 : 0 ≤ n) (n1 : n < 40) : ∃ P' l r, PotOk P' ∧ Nb l r (2 ^ 40) ∧ callAt tb (k + 2) 11 [.own P 1, .d (.int n)] = some (.d (.tup [rD l, rD r]), [.own P' 1, .d (.int n)]) := by
  have wr := range1_ok (a := n) n0 (by omega)
  obtain ⟨P', l, r, t2, t5, hP', h, lp⟩ := loop11 k (.int n) (rangeD 0 n.toNat) hP (l := (0, 1)) (r := (1, 0)) (K := 1) ⟨by decide, by decide, by decide, by decide, by decide, by decide, by decide, by decide, by decide⟩ (s2 := .un) (s5 := .un) fr_un fr_un
  rw [rangeD_len, Int.mul_one] at h
  have le : (2 : Int) ^ n.toNat ≤ 2 ^ 40 := by exact_mod_cast Nat.pow_le_pow_right (show 0 < 2 by decide) (show n.toNat ≤ 40 by omega)
  obtain ⟨h1, h2, h3, h4, h5, h6, h7, h8, h9⟩ := h
  refine ⟨P', l, r, hP', ⟨h1, h2, h3, h4, h5, Int.le_trans h6 le, Int.le_trans h7 le, Int.le_trans h8 le, Int.le_trans h9 le⟩, ?_⟩
  clear h1 h2 h3 h4 h5 h6 h7 h8 h9 le
  generalize rangeD 0 n.toNat = RS at *
  refine call_ret (env0 := [.own P 1, .d (.int n), .un, .un, .un, .un]) h11 rfl rfl rfl (env := [.own P' 1, .d (.int n), t2, .d (rD l), .d (rD r), t5]) ?_
  rw [A11_body]
  unfold A110
  refine (xs_step (by simp only [v_var, v_lit, v_op, v_tup, v_lst, v_and, v_or, v_ite, v_chain, v_call, v_comp, v_mut, v_met, vs_nil, vs_cons, x_asg, x_asgT, x_set, x_unp, x_par, x_aug, x_if, x_ifl, frzE_nil, frzE_cons, frzSl_un, frzSl_d, frzSl_own, x_whl, x_for, x_ret, x_retN, x_expr, x_brk, x_cont, x_pass, xs_nil, xs_cons, lockA, unlockA, evCond, rdAs, rdA, boolA, bd, frz, frzs, frzR, slA, slAs, refs, postA, keepA, keepAs, g_nm', g_tp', g_sb', gs_nil', gs_cons', isOwn, isSet, isLs, setAt, putN_eq, fr_d, fr_un, fr_own0, slT, asD, retT, n_nm, n_tp, n_tl, ns_nil, ns_cons, augF, augI, items, mutKeeps, mutF, pick, List.filterMap_cons, List.filterMap_nil, List.getElem?_cons_zero, List.getElem?_cons_succ, List.getElem?_nil, List.length_cons, List.length_nil, List.cons_append, List.nil_append, List.replicate, List.map_cons, List.map_nil, List.set_cons_zero, List.set_cons_succ, List.take_succ_cons, List.take_zero, Option.map_some, Nat.le_refl, Nat.zero_add, Nat.reduceAdd, Nat.reduceSub, Nat.reduceLeDiff, Nat.reduceEqDiff, if_true, if_false, Bool.false_eq_true, reduceIte, List.nodup_nil, List.nodup_cons, List.not_mem_nil, not_false_eq_true, and_true, true_and, List.mem_cons, or_false, or_self, forall_eq, forall_eq_or_imp,  Nat.le_add_left, Nat.zero_le, q_add, q_sub, q_neg, q_no, q_eq, q_ne, q_lt, q_le, q_gt, q_ge, q_toInt, q_abs, q_max2, q_lenL, q_lenS, q_lenT, q_ixL, q_ixT, q_ixS, q_isi_ii, q_isi_bi, q_isi_ib, q_isi_bb, q_isi_tt, q_isi_ll, q_isi_lt, q_isi_tl, q_isN_n, q_isN_t, q_isN_i, q_notN_n, q_notN_t, q_notN_i, q_eqS, q_neS, q_all, q_any, q_sum, q_tuple, q_listT, q_listL, q_idI, q_gcd, q_min2, q_isB, q_notB, Bool.not_true, Bool.not_false, Bool.not_not, at1_0, ixN1_0, at2_0, ixN2_0, at2_1, ixN2_1, at3_0, ixN3_0, at3_1, ixN3_1, at3_2, ixN3_2, at4_0, ixN4_0, at4_1, ixN4_1, at4_2, ixN4_2, at4_3, ixN4_3, at5_0, ixN5_0, at5_1, ixN5_1, at5_2, ixN5_2, at5_3, ixN5_3, at5_4, ixN5_4, at6_0, ixN6_0, at6_1, ixN6_1, at6_2, ixN6_2, at6_3, ixN6_3, at6_4, ixN6_4, at6_5, ixN6_5, ln0, ln1, ln2, ln3, ln4, ln5, ln6, ln7, ln8, ln9, ln10, ln11, ln12, ln13, ln14, ln15, ln16, ln17, ln18, ln19, ln20, ln21, ln22, ln23, ln24, nc0, nc1, nc2, nc3, nc4, nc5, nc6, nc7, nc8, nc9, nc10, nc11, nc12, nc13, nc14, nc15, nc16, false_imp_iff, implies_true, beq_self_eq_true, Int.reduceBEq, Int.reduceLT, Int.reduceLE, decide_true, decide_false, List.all_cons, List.all_nil, List.any_cons, List.any_nil, id_eq, Bool.and_true, Bool.true_and, Bool.and_false, Bool.false_and, Bool.or_true, Bool.true_or, Bool.or_false, Bool.false_or]; with_reducible rfl)).trans ?_
  unfold A111
  refine (xs_step (by
    have lp' : forL (turnF (callAt tb (k + 1)) Fuel (.nm 2) A11L0) RS [.own P 1, .d (.int n), .un, .d (.tup [.int 0, .int 1]), .d (.tup [.int 1, .int 0]), .un] = _ := lp
    simp only [v_var, v_lit, v_op, v_tup, v_lst, v_and, v_or, v_ite, v_chain, v_call, v_comp, v_mut, v_met, vs_nil, vs_cons, x_asg, x_asgT, x_set, x_unp, x_par, x_aug, x_if, x_ifl, frzE_nil, frzE_cons, frzSl_un, frzSl_d, frzSl_own, x_whl, x_for, x_ret, x_retN, x_expr, x_brk, x_cont, x_pass, xs_nil, xs_cons, lockA, unlockA, evCond, rdAs, rdA, boolA, bd, frz, frzs, frzR, slA, slAs, refs, postA, keepA, keepAs, g_nm', g_tp', g_sb', gs_nil', gs_cons', isOwn, isSet, isLs, setAt, putN_eq, fr_d, fr_un, fr_own0, slT, asD, retT, n_nm, n_tp, n_tl, ns_nil, ns_cons, augF, augI, items, mutKeeps, mutF, pick, List.filterMap_cons, List.filterMap_nil, List.getElem?_cons_zero, List.getElem?_cons_succ, List.getElem?_nil, List.length_cons, List.length_nil, List.cons_append, List.nil_append, List.replicate, List.map_cons, List.map_nil, List.set_cons_zero, List.set_cons_succ, List.take_succ_cons, List.take_zero, Option.map_some, Nat.le_refl, Nat.zero_add, Nat.reduceAdd, Nat.reduceSub, Nat.reduceLeDiff, Nat.reduceEqDiff, if_true, if_false, Bool.false_eq_true, reduceIte, List.nodup_nil, List.nodup_cons, List.not_mem_nil, not_false_eq_true, and_true, true_and, List.mem_cons, or_false, or_self, forall_eq, forall_eq_or_imp,  Nat.le_add_left, Nat.zero_le, q_add, q_sub, q_neg, q_no, q_eq, q_ne, q_lt, q_le, q_gt, q_ge, q_toInt, q_abs, q_max2, q_lenL, q_lenS, q_lenT, q_ixL, q_ixT, q_ixS, q_isi_ii, q_isi_bi, q_isi_ib, q_isi_bb, q_isi_tt, q_isi_ll, q_isi_lt, q_isi_tl, q_isN_n, q_isN_t, q_isN_i, q_notN_n, q_notN_t, q_notN_i, q_eqS, q_neS, q_all, q_any, q_sum, q_tuple, q_listT, q_listL, q_idI, q_gcd, q_min2, q_isB, q_notB, Bool.not_true, Bool.not_false, Bool.not_not, at1_0, ixN1_0, at2_0, ixN2_0, at2_1, ixN2_1, at3_0, ixN3_0, at3_1, ixN3_1, at3_2, ixN3_2, at4_0, ixN4_0, at4_1, ixN4_1, at4_2, ixN4_2, at4_3, ixN4_3, at5_0, ixN5_0, at5_1, ixN5_1, at5_2, ixN5_2, at5_3, ixN5_3, at5_4, ixN5_4, at6_0, ixN6_0, at6_1, ixN6_1, at6_2, ixN6_2, at6_3, ixN6_3, at6_4, ixN6_4, at6_5, ixN6_5, ln0, ln1, ln2, ln3, ln4, ln5, ln6, ln7, ln8, ln9, ln10, ln11, ln12, ln13, ln14, ln15, ln16, ln17, ln18, ln19, ln20, ln21, ln22, ln23, ln24, nc0, nc1, nc2, nc3, nc4, nc5, nc6, nc7, nc8, nc9, nc10, nc11, nc12, nc13, nc14, nc15, nc16, false_imp_iff, implies_true, beq_self_eq_true, Int.reduceBEq, Int.reduceLT, Int.reduceLE, decide_true, decide_false, List.all_cons, List.all_nil, List.any_cons, List.any_nil, id_eq, Bool.and_true, Bool.true_and, Bool.and_false, Bool.false_and, Bool.or_true, Bool.true_or, Bool.or_false, Bool.false_or, wr, lp']; with_reducible rfl)).trans ?_
  unfold A112
  exact xs_ret (by simp only [v_var, v_lit, v_op, v_tup, v_lst, v_and, v_or, v_ite, v_chain, v_call, v_comp, v_mut, v_met, vs_nil, vs_cons, x_asg, x_asgT, x_set, x_unp, x_par, x_aug, x_if, x_ifl, frzE_nil, frzE_cons, frzSl_un, frzSl_d, frzSl_own, x_whl, x_for, x_ret, x_retN, x_expr, x_brk, x_cont, x_pass, xs_nil, xs_cons, lockA, unlockA, evCond, rdAs, rdA, boolA, bd, frz, frzs, frzR, slA, slAs, refs, postA, keepA, keepAs, g_nm', g_tp', g_sb', gs_nil', gs_cons', isOwn, isSet, isLs, setAt, putN_eq, fr_d, fr_un, fr_own0, slT, asD, retT, n_nm, n_tp, n_tl, ns_nil, ns_cons, augF, augI, items, mutKeeps, mutF, pick, List.filterMap_cons, List.filterMap_nil, List.getElem?_cons_zero, List.getElem?_cons_succ, List.getElem?_nil, List.length_cons, List.length_nil, List.cons_append, List.nil_append, List.replicate, List.map_cons, List.map_nil, List.set_cons_zero, List.set_cons_succ, List.take_succ_cons, List.take_zero, Option.map_some, Nat.le_refl, Nat.zero_add, Nat.reduceAdd, Nat.reduceSub, Nat.reduceLeDiff, Nat.reduceEqDiff, if_true, if_false, Bool.false_eq_true, reduceIte, List.nodup_nil, List.nodup_cons, List.not_mem_nil, not_false_eq_true, and_true, true_and, List.mem_cons, or_false, or_self, forall_eq, forall_eq_or_imp,  Nat.le_add_left, Nat.zero_le, q_add, q_sub, q_neg, q_no, q_eq, q_ne, q_lt, q_le, q_gt, q_ge, q_toInt, q_abs, q_max2, q_lenL, q_lenS, q_lenT, q_ixL, q_ixT, q_ixS, q_isi_ii, q_isi_bi, q_isi_ib, q_isi_bb, q_isi_tt, q_isi_ll, q_isi_lt, q_isi_tl, q_isN_n, q_isN_t, q_isN_i, q_notN_n, q_notN_t, q_notN_i, q_eqS, q_neS, q_all, q_any, q_sum, q_tuple, q_listT, q_listL, q_idI, q_gcd, q_min2, q_isB, q_notB, Bool.not_true, Bool.not_false, Bool.not_not, at1_0, ixN1_0, at2_0, ixN2_0, at2_1, ixN2_1, at3_0, ixN3_0, at3_1, ixN3_1, at3_2, ixN3_2, at4_0, ixN4_0, at4_1, ixN4_1, at4_2, ixN4_2, at4_3, ixN4_3, at5_0, ixN5_0, at5_1, ixN5_1, at5_2, ixN5_2, at5_3, ixN5_3, at5_4, ixN5_4, at6_0, ixN6_0, at6_1, ixN6_1, at6_2, ixN6_2, at6_3, ixN6_3, at6_4, ixN6_4, at6_5, ixN6_5, ln0, ln1, ln2, ln3, ln4, ln5, ln6, ln7, ln8, ln9, ln10, ln11, ln12, ln13, ln14, ln15, ln16, ln17, ln18, ln19, ln20, ln21, ln22, ln23, ln24, nc0, nc1, nc2, nc3, nc4, nc5, nc6, nc7, nc8, nc9, nc10, nc11, nc12, nc13, nc14, nc15, nc16, false_imp_iff, implies_true, beq_self_eq_true, Int.reduceBEq, Int.reduceLT, Int.reduceLE, decide_true, decide_false, List.all_cons, List.all_nil, List.any_cons, List.any_nil, id_eq, Bool.and_true, Bool.true_and, Bool.and_false, Bool.false_and, Bool.or_true, Bool.true_or, Bool.or_false, Bool.false_or])
/-! ### the loops of the right -/
theorem st_a {C : Sem0} {P P1 DR : List D} {L R wd : D} {s2 s3 s6 s7 s8 s9 s10 s11 : Sl} (g6 : frS (some s6) = true) (pw : opF .pow [.int 10, .int 9] = some (.d (.int 1000000000))) (e8 : C 8 [.own P 1, .own [.int 4, .int 40, .int 1000000000] 0] = some (.d wd, [.own P1 1, .own [.int 4, .int 40, .int 1000000000] 0])) :
    exB C Fuel Q0 [.own P 1, .own DR 0, s2, s3, .d L, .d R, s6, s7, s8, s9, s10, s11] = exB C Fuel Q1 [.own P1 1, .own DR 0, s2, s3, .d L, .d R, .d wd, s7, s8, s9, s10, s11] := by
  unfold Q0
  refine xs_step ?_
  simp only [v_var, v_lit, v_op, v_tup, v_lst, v_and, v_or, v_ite, v_chain, v_call, v_comp, v_mut, v_met, vs_nil, vs_cons, x_asg, x_asgT, x_set, x_unp, x_par, x_aug, x_if, x_ifl, frzE_nil, frzE_cons, frzSl_un, frzSl_d, frzSl_own, x_whl, x_for, x_ret, x_retN, x_expr, x_brk, x_cont, x_pass, xs_nil, xs_cons, lockA, unlockA, evCond, rdAs, rdA, boolA, bd, frz, frzs, frzR, slA, slAs, refs, postA, keepA, keepAs, g_nm', g_tp', g_sb', gs_nil', gs_cons', isOwn, isSet, isLs, setAt, putN_eq, fr_d, fr_un, fr_own0, slT, asD, retT, n_nm, n_tp, n_tl, ns_nil, ns_cons, augF, augI, items, mutKeeps, mutF, pick, List.filterMap_cons, List.filterMap_nil, List.getElem?_cons_zero, List.getElem?_cons_succ, List.getElem?_nil, List.length_cons, List.length_nil, List.cons_append, List.nil_append, List.replicate, List.map_cons, List.map_nil, List.set_cons_zero, List.set_cons_succ, List.take_succ_cons, List.take_zero, Option.map_some, Nat.le_refl, Nat.zero_add, Nat.reduceAdd, Nat.reduceSub, Nat.reduceLeDiff, Nat.reduceEqDiff, if_true, if_false, Bool.false_eq_true, reduceIte, List.nodup_nil, List.nodup_cons, List.not_mem_nil, not_false_eq_true, and_true, true_and, List.mem_cons, or_false, or_self, forall_eq, forall_eq_or_imp,  Nat.le_add_left, Nat.zero_le, q_add, q_sub, q_neg, q_no, q_eq, q_ne, q_lt, q_le, q_gt, q_ge, q_toInt, q_abs, q_max2, q_lenL, q_lenS, q_lenT, q_ixL, q_ixT, q_ixS, q_isi_ii, q_isi_bi, q_isi_ib, q_isi_bb, q_isi_tt, q_isi_ll, q_isi_lt, q_isi_tl, q_isN_n, q_isN_t, q_isN_i, q_notN_n, q_notN_t, q_notN_i, q_eqS, q_neS, q_all, q_any, q_sum, q_tuple, q_listT, q_listL, q_idI, q_gcd, q_min2, q_isB, q_notB, Bool.not_true, Bool.not_false, Bool.not_not, at1_0, ixN1_0, at2_0, ixN2_0, at2_1, ixN2_1, at3_0, ixN3_0, at3_1, ixN3_1, at3_2, ixN3_2, at4_0, ixN4_0, at4_1, ixN4_1, at4_2, ixN4_2, at4_3, ixN4_3, at5_0, ixN5_0, at5_1, ixN5_1, at5_2, ixN5_2, at5_3, ixN5_3, at5_4, ixN5_4, at6_0, ixN6_0, at6_1, ixN6_1, at6_2, ixN6_2, at6_3, ixN6_3, at6_4, ixN6_4, at6_5, ixN6_5, ln0, ln1, ln2, ln3, ln4, ln5, ln6, ln7, ln8, ln9, ln10, ln11, ln12, ln13, ln14, ln15, ln16, ln17, ln18, ln19, ln20, ln21, ln22, ln23, ln24, nc0, nc1, nc2, nc3, nc4, nc5, nc6, nc7, nc8, nc9, nc10, nc11, nc12, nc13, nc14, nc15, nc16, false_imp_iff, implies_true, beq_self_eq_true, Int.reduceBEq, Int.reduceLT, Int.reduceLE, decide_true, decide_false, List.all_cons, List.all_nil, List.any_cons, List.any_nil, id_eq, Bool.and_true, Bool.true_and, Bool.and_false, Bool.false_and, Bool.or_true, Bool.true_or, Bool.or_false, Bool.false_or, g6, pw, e8]
theorem st_b {C : Sem0} {P P1 P2 DR : List D} {L R wd : D} {x y : Int} {s2 s3 s7 s8 s9 s10 s11 : Sl} (g7 : frS (some s7) = true) (e1 : C 7 [.own P 1, .d wd] = some (.d (.int x), [.own P1 1, .d wd])) (e2 : C 7 [.own P1 1, .d wd] = some (.d (.int y), [.own P2 1, .d wd])) :
    exB C Fuel Q1 [.own P 1, .own DR 0, s2, s3, .d L, .d R, .d wd, s7, s8, s9, s10, s11] = exB C Fuel Q2 [.own P2 1, .own DR 0, s2, s3, .d L, .d R, .d wd, .d (.tup [.int x, .int y]), s8, s9, s10, s11] := by
  unfold Q1
  refine xs_step ?_
  simp only [v_var, v_lit, v_op, v_tup, v_lst, v_and, v_or, v_ite, v_chain, v_call, v_comp, v_mut, v_met, vs_nil, vs_cons, x_asg, x_asgT, x_set, x_unp, x_par, x_aug, x_if, x_ifl, frzE_nil, frzE_cons, frzSl_un, frzSl_d, frzSl_own, x_whl, x_for, x_ret, x_retN, x_expr, x_brk, x_cont, x_pass, xs_nil, xs_cons, lockA, unlockA, evCond, rdAs, rdA, boolA, bd, frz, frzs, frzR, slA, slAs, refs, postA, keepA, keepAs, g_nm', g_tp', g_sb', gs_nil', gs_cons', isOwn, isSet, isLs, setAt, putN_eq, fr_d, fr_un, fr_own0, slT, asD, retT, n_nm, n_tp, n_tl, ns_nil, ns_cons, augF, augI, items, mutKeeps, mutF, pick, List.filterMap_cons, List.filterMap_nil, List.getElem?_cons_zero, List.getElem?_cons_succ, List.getElem?_nil, List.length_cons, List.length_nil, List.cons_append, List.nil_append, List.replicate, List.map_cons, List.map_nil, List.set_cons_zero, List.set_cons_succ, List.take_succ_cons, List.take_zero, Option.map_some, Nat.le_refl, Nat.zero_add, Nat.reduceAdd, Nat.reduceSub, Nat.reduceLeDiff, Nat.reduceEqDiff, if_true, if_false, Bool.false_eq_true, reduceIte, List.nodup_nil, List.nodup_cons, List.not_mem_nil, not_false_eq_true, and_true, true_and, List.mem_cons, or_false, or_self, forall_eq, forall_eq_or_imp,  Nat.le_add_left, Nat.zero_le, q_add, q_sub, q_neg, q_no, q_eq, q_ne, q_lt, q_le, q_gt, q_ge, q_toInt, q_abs, q_max2, q_lenL, q_lenS, q_lenT, q_ixL, q_ixT, q_ixS, q_isi_ii, q_isi_bi, q_isi_ib, q_isi_bb, q_isi_tt, q_isi_ll, q_isi_lt, q_isi_tl, q_isN_n, q_isN_t, q_isN_i, q_notN_n, q_notN_t, q_notN_i, q_eqS, q_neS, q_all, q_any, q_sum, q_tuple, q_listT, q_listL, q_idI, q_gcd, q_min2, q_isB, q_notB, Bool.not_true, Bool.not_false, Bool.not_not, at1_0, ixN1_0, at2_0, ixN2_0, at2_1, ixN2_1, at3_0, ixN3_0, at3_1, ixN3_1, at3_2, ixN3_2, at4_0, ixN4_0, at4_1, ixN4_1, at4_2, ixN4_2, at4_3, ixN4_3, at5_0, ixN5_0, at5_1, ixN5_1, at5_2, ixN5_2, at5_3, ixN5_3, at5_4, ixN5_4, at6_0, ixN6_0, at6_1, ixN6_1, at6_2, ixN6_2, at6_3, ixN6_3, at6_4, ixN6_4, at6_5, ixN6_5, ln0, ln1, ln2, ln3, ln4, ln5, ln6, ln7, ln8, ln9, ln10, ln11, ln12, ln13, ln14, ln15, ln16, ln17, ln18, ln19, ln20, ln21, ln22, ln23, ln24, nc0, nc1, nc2, nc3, nc4, nc5, nc6, nc7, nc8, nc9, nc10, nc11, nc12, nc13, nc14, nc15, nc16, false_imp_iff, implies_true, beq_self_eq_true, Int.reduceBEq, Int.reduceLT, Int.reduceLE, decide_true, decide_false, List.all_cons, List.all_nil, List.any_cons, List.any_nil, id_eq, Bool.and_true, Bool.true_and, Bool.and_false, Bool.false_and, Bool.or_true, Bool.true_or, Bool.or_false, Bool.false_or, g7, e1, e2]
theorem st_c1 {C : Sem0} {P DR : List D} {L R : D} {x y : Int} {s2 s3 s6 s8 s9 s10 s11 : Sl} (q : opF .eq [.tup [.int x, .int y], .tup [.int 0, .int 0]] = some (.d (.bl true))) :
    exB C Fuel Q2 [.own P 1, .own DR 0, s2, s3, .d L, .d R, s6, .d (.tup [.int x, .int y]), s8, s9, s10, s11] = exB C Fuel Q3 [.own P 1, .own DR 0, s2, s3, .d L, .d R, s6, .d (.tup [.int 1, .int 0]), s8, s9, s10, s11] := by
  unfold Q2
  refine xs_step ?_
  simp only [v_var, v_lit, v_op, v_tup, v_lst, v_and, v_or, v_ite, v_chain, v_call, v_comp, v_mut, v_met, vs_nil, vs_cons, x_asg, x_asgT, x_set, x_unp, x_par, x_aug, x_if, x_ifl, frzE_nil, frzE_cons, frzSl_un, frzSl_d, frzSl_own, x_whl, x_for, x_ret, x_retN, x_expr, x_brk, x_cont, x_pass, xs_nil, xs_cons, lockA, unlockA, evCond, rdAs, rdA, boolA, bd, frz, frzs, frzR, slA, slAs, refs, postA, keepA, keepAs, g_nm', g_tp', g_sb', gs_nil', gs_cons', isOwn, isSet, isLs, setAt, putN_eq, fr_d, fr_un, fr_own0, slT, asD, retT, n_nm, n_tp, n_tl, ns_nil, ns_cons, augF, augI, items, mutKeeps, mutF, pick, List.filterMap_cons, List.filterMap_nil, List.getElem?_cons_zero, List.getElem?_cons_succ, List.getElem?_nil, List.length_cons, List.length_nil, List.cons_append, List.nil_append, List.replicate, List.map_cons, List.map_nil, List.set_cons_zero, List.set_cons_succ, List.take_succ_cons, List.take_zero, Option.map_some, Nat.le_refl, Nat.zero_add, Nat.reduceAdd, Nat.reduceSub, Nat.reduceLeDiff, Nat.reduceEqDiff, if_true, if_false, Bool.false_eq_true, reduceIte, List.nodup_nil, List.nodup_cons, List.not_mem_nil, not_false_eq_true, and_true, true_and, List.mem_cons, or_false, or_self, forall_eq, forall_eq_or_imp,  Nat.le_add_left, Nat.zero_le, q_add, q_sub, q_neg, q_no, q_eq, q_ne, q_lt, q_le, q_gt, q_ge, q_toInt, q_abs, q_max2, q_lenL, q_lenS, q_lenT, q_ixL, q_ixT, q_ixS, q_isi_ii, q_isi_bi, q_isi_ib, q_isi_bb, q_isi_tt, q_isi_ll, q_isi_lt, q_isi_tl, q_isN_n, q_isN_t, q_isN_i, q_notN_n, q_notN_t, q_notN_i, q_eqS, q_neS, q_all, q_any, q_sum, q_tuple, q_listT, q_listL, q_idI, q_gcd, q_min2, q_isB, q_notB, Bool.not_true, Bool.not_false, Bool.not_not, at1_0, ixN1_0, at2_0, ixN2_0, at2_1, ixN2_1, at3_0, ixN3_0, at3_1, ixN3_1, at3_2, ixN3_2, at4_0, ixN4_0, at4_1, ixN4_1, at4_2, ixN4_2, at4_3, ixN4_3, at5_0, ixN5_0, at5_1, ixN5_1, at5_2, ixN5_2, at5_3, ixN5_3, at5_4, ixN5_4, at6_0, ixN6_0, at6_1, ixN6_1, at6_2, ixN6_2, at6_3, ixN6_3, at6_4, ixN6_4, at6_5, ixN6_5, ln0, ln1, ln2, ln3, ln4, ln5, ln6, ln7, ln8, ln9, ln10, ln11, ln12, ln13, ln14, ln15, ln16, ln17, ln18, ln19, ln20, ln21, ln22, ln23, ln24, nc0, nc1, nc2, nc3, nc4, nc5, nc6, nc7, nc8, nc9, nc10, nc11, nc12, nc13, nc14, nc15, nc16, false_imp_iff, implies_true, beq_self_eq_true, Int.reduceBEq, Int.reduceLT, Int.reduceLE, decide_true, decide_false, List.all_cons, List.all_nil, List.any_cons, List.any_nil, id_eq, Bool.and_true, Bool.true_and, Bool.and_false, Bool.false_and, Bool.or_true, Bool.true_or, Bool.or_false, Bool.false_or, q]
theorem st_c2 {C : Sem0} {P DR : List D} {L R : D} {x y : Int} {s2 s3 s6 s8 s9 s10 s11 : Sl} (q : opF .eq [.tup [.int x, .int y], .tup [.int 0, .int 0]] = some (.d (.bl false))) (y0 : decide (0 < y) = false) :
    exB C Fuel Q2 [.own P 1, .own DR 0, s2, s3, .d L, .d R, s6, .d (.tup [.int x, .int y]), s8, s9, s10, s11] = exB C Fuel Q3 [.own P 1, .own DR 0, s2, s3, .d L, .d R, s6, .d (.tup [.int 1, .int 0]), s8, s9, s10, s11] := by
  unfold Q2
  refine xs_step ?_
  simp only [v_var, v_lit, v_op, v_tup, v_lst, v_and, v_or, v_ite, v_chain, v_call, v_comp, v_mut, v_met, vs_nil, vs_cons, x_asg, x_asgT, x_set, x_unp, x_par, x_aug, x_if, x_ifl, frzE_nil, frzE_cons, frzSl_un, frzSl_d, frzSl_own, x_whl, x_for, x_ret, x_retN, x_expr, x_brk, x_cont, x_pass, xs_nil, xs_cons, lockA, unlockA, evCond, rdAs, rdA, boolA, bd, frz, frzs, frzR, slA, slAs, refs, postA, keepA, keepAs, g_nm', g_tp', g_sb', gs_nil', gs_cons', isOwn, isSet, isLs, setAt, putN_eq, fr_d, fr_un, fr_own0, slT, asD, retT, n_nm, n_tp, n_tl, ns_nil, ns_cons, augF, augI, items, mutKeeps, mutF, pick, List.filterMap_cons, List.filterMap_nil, List.getElem?_cons_zero, List.getElem?_cons_succ, List.getElem?_nil, List.length_cons, List.length_nil, List.cons_append, List.nil_append, List.replicate, List.map_cons, List.map_nil, List.set_cons_zero, List.set_cons_succ, List.take_succ_cons, List.take_zero, Option.map_some, Nat.le_refl, Nat.zero_add, Nat.reduceAdd, Nat.reduceSub, Nat.reduceLeDiff, Nat.reduceEqDiff, if_true, if_false, Bool.false_eq_true, reduceIte, List.nodup_nil, List.nodup_cons, List.not_mem_nil, not_false_eq_true, and_true, true_and, List.mem_cons, or_false, or_self, forall_eq, forall_eq_or_imp,  Nat.le_add_left, Nat.zero_le, q_add, q_sub, q_neg, q_no, q_eq, q_ne, q_lt, q_le, q_gt, q_ge, q_toInt, q_abs, q_max2, q_lenL, q_lenS, q_lenT, q_ixL, q_ixT, q_ixS, q_isi_ii, q_isi_bi, q_isi_ib, q_isi_bb, q_isi_tt, q_isi_ll, q_isi_lt, q_isi_tl, q_isN_n, q_isN_t, q_isN_i, q_notN_n, q_notN_t, q_notN_i, q_eqS, q_neS, q_all, q_any, q_sum, q_tuple, q_listT, q_listL, q_idI, q_gcd, q_min2, q_isB, q_notB, Bool.not_true, Bool.not_false, Bool.not_not, at1_0, ixN1_0, at2_0, ixN2_0, at2_1, ixN2_1, at3_0, ixN3_0, at3_1, ixN3_1, at3_2, ixN3_2, at4_0, ixN4_0, at4_1, ixN4_1, at4_2, ixN4_2, at4_3, ixN4_3, at5_0, ixN5_0, at5_1, ixN5_1, at5_2, ixN5_2, at5_3, ixN5_3, at5_4, ixN5_4, at6_0, ixN6_0, at6_1, ixN6_1, at6_2, ixN6_2, at6_3, ixN6_3, at6_4, ixN6_4, at6_5, ixN6_5, ln0, ln1, ln2, ln3, ln4, ln5, ln6, ln7, ln8, ln9, ln10, ln11, ln12, ln13, ln14, ln15, ln16, ln17, ln18, ln19, ln20, ln21, ln22, ln23, ln24, nc0, nc1, nc2, nc3, nc4, nc5, nc6, nc7, nc8, nc9, nc10, nc11, nc12, nc13, nc14, nc15, nc16, false_imp_iff, implies_true, beq_self_eq_true, Int.reduceBEq, Int.reduceLT, Int.reduceLE, decide_true, decide_false, List.all_cons, List.all_nil, List.any_cons, List.any_nil, id_eq, Bool.and_true, Bool.true_and, Bool.and_false, Bool.false_and, Bool.or_true, Bool.true_or, Bool.or_false, Bool.false_or, q, y0]
theorem st_c3 {C : Sem0} {P DR : List D} {L R : D} {x y u v : Int} {s2 s3 s6 s8 s9 s10 s11 : Sl} (q : opF .eq [.tup [.int x, .int y], .tup [.int 0, .int 0]] = some (.d (.bl false))) (y0 : decide (0 < y) = true) (e9 : C 9 [.d (.int x), .d (.int y)] = some (.d (.tup [.int u, .int v]), [.d (.int x), .d (.int y)])) :
    exB C Fuel Q2 [.own P 1, .own DR 0, s2, s3, .d L, .d R, s6, .d (.tup [.int x, .int y]), s8, s9, s10, s11] = exB C Fuel Q3 [.own P 1, .own DR 0, s2, s3, .d L, .d R, s6, .d (.tup [.int u, .int v]), s8, s9, s10, s11] := by
  unfold Q2
  refine xs_step ?_
  simp only [v_var, v_lit, v_op, v_tup, v_lst, v_and, v_or, v_ite, v_chain, v_call, v_comp, v_mut, v_met, vs_nil, vs_cons, x_asg, x_asgT, x_set, x_unp, x_par, x_aug, x_if, x_ifl, frzE_nil, frzE_cons, frzSl_un, frzSl_d, frzSl_own, x_whl, x_for, x_ret, x_retN, x_expr, x_brk, x_cont, x_pass, xs_nil, xs_cons, lockA, unlockA, evCond, rdAs, rdA, boolA, bd, frz, frzs, frzR, slA, slAs, refs, postA, keepA, keepAs, g_nm', g_tp', g_sb', gs_nil', gs_cons', isOwn, isSet, isLs, setAt, putN_eq, fr_d, fr_un, fr_own0, slT, asD, retT, n_nm, n_tp, n_tl, ns_nil, ns_cons, augF, augI, items, mutKeeps, mutF, pick, List.filterMap_cons, List.filterMap_nil, List.getElem?_cons_zero, List.getElem?_cons_succ, List.getElem?_nil, List.length_cons, List.length_nil, List.cons_append, List.nil_append, List.replicate, List.map_cons, List.map_nil, List.set_cons_zero, List.set_cons_succ, List.take_succ_cons, List.take_zero, Option.map_some, Nat.le_refl, Nat.zero_add, Nat.reduceAdd, Nat.reduceSub, Nat.reduceLeDiff, Nat.reduceEqDiff, if_true, if_false, Bool.false_eq_true, reduceIte, List.nodup_nil, List.nodup_cons, List.not_mem_nil, not_false_eq_true, and_true, true_and, List.mem_cons, or_false, or_self, forall_eq, forall_eq_or_imp,  Nat.le_add_left, Nat.zero_le, q_add, q_sub, q_neg, q_no, q_eq, q_ne, q_lt, q_le, q_gt, q_ge, q_toInt, q_abs, q_max2, q_lenL, q_lenS, q_lenT, q_ixL, q_ixT, q_ixS, q_isi_ii, q_isi_bi, q_isi_ib, q_isi_bb, q_isi_tt, q_isi_ll, q_isi_lt, q_isi_tl, q_isN_n, q_isN_t, q_isN_i, q_notN_n, q_notN_t, q_notN_i, q_eqS, q_neS, q_all, q_any, q_sum, q_tuple, q_listT, q_listL, q_idI, q_gcd, q_min2, q_isB, q_notB, Bool.not_true, Bool.not_false, Bool.not_not, at1_0, ixN1_0, at2_0, ixN2_0, at2_1, ixN2_1, at3_0, ixN3_0, at3_1, ixN3_1, at3_2, ixN3_2, at4_0, ixN4_0, at4_1, ixN4_1, at4_2, ixN4_2, at4_3, ixN4_3, at5_0, ixN5_0, at5_1, ixN5_1, at5_2, ixN5_2, at5_3, ixN5_3, at5_4, ixN5_4, at6_0, ixN6_0, at6_1, ixN6_1, at6_2, ixN6_2, at6_3, ixN6_3, at6_4, ixN6_4, at6_5, ixN6_5, ln0, ln1, ln2, ln3, ln4, ln5, ln6, ln7, ln8, ln9, ln10, ln11, ln12, ln13, ln14, ln15, ln16, ln17, ln18, ln19, ln20, ln21, ln22, ln23, ln24, nc0, nc1, nc2, nc3, nc4, nc5, nc6, nc7, nc8, nc9, nc10, nc11, nc12, nc13, nc14, nc15, nc16, false_imp_iff, implies_true, beq_self_eq_true, Int.reduceBEq, Int.reduceLT, Int.reduceLE, decide_true, decide_false, List.all_cons, List.all_nil, List.any_cons, List.any_nil, id_eq, Bool.and_true, Bool.true_and, Bool.and_false, Bool.false_and, Bool.or_true, Bool.true_or, Bool.or_false, Bool.false_or, q, y0, e9]
theorem st_d {C : Sem0} {P DR : List D} {L R O : D} {u v : Int} {s2 s3 s6 s8 s9 s10 s11 : Sl} (g8 : frS (some s8) = true) (e12 : C 12 [.d L, .d R, .d (.int u), .d (.int v)] = some (.d O, [.d L, .d R, .d (.int u), .d (.int v)])) :
    exB C Fuel Q3 [.own P 1, .own DR 0, s2, s3, .d L, .d R, s6, .d (.tup [.int u, .int v]), s8, s9, s10, s11] = exB C Fuel Q4 [.own P 1, .own DR 0, s2, s3, .d L, .d R, s6, .d (.tup [.int u, .int v]), .d O, s9, s10, s11] := by
  unfold Q3
  refine xs_step ?_
  simp only [v_var, v_lit, v_op, v_tup, v_lst, v_and, v_or, v_ite, v_chain, v_call, v_comp, v_mut, v_met, vs_nil, vs_cons, x_asg, x_asgT, x_set, x_unp, x_par, x_aug, x_if, x_ifl, frzE_nil, frzE_cons, frzSl_un, frzSl_d, frzSl_own, x_whl, x_for, x_ret, x_retN, x_expr, x_brk, x_cont, x_pass, xs_nil, xs_cons, lockA, unlockA, evCond, rdAs, rdA, boolA, bd, frz, frzs, frzR, slA, slAs, refs, postA, keepA, keepAs, g_nm', g_tp', g_sb', gs_nil', gs_cons', isOwn, isSet, isLs, setAt, putN_eq, fr_d, fr_un, fr_own0, slT, asD, retT, n_nm, n_tp, n_tl, ns_nil, ns_cons, augF, augI, items, mutKeeps, mutF, pick, List.filterMap_cons, List.filterMap_nil, List.getElem?_cons_zero, List.getElem?_cons_succ, List.getElem?_nil, List.length_cons, List.length_nil, List.cons_append, List.nil_append, List.replicate, List.map_cons, List.map_nil, List.set_cons_zero, List.set_cons_succ, List.take_succ_cons, List.take_zero, Option.map_some, Nat.le_refl, Nat.zero_add, Nat.reduceAdd, Nat.reduceSub, Nat.reduceLeDiff, Nat.reduceEqDiff, if_true, if_false, Bool.false_eq_true, reduceIte, List.nodup_nil, List.nodup_cons, List.not_mem_nil, not_false_eq_true, and_true, true_and, List.mem_cons, or_false, or_self, forall_eq, forall_eq_or_imp,  Nat.le_add_left, Nat.zero_le, q_add, q_sub, q_neg, q_no, q_eq, q_ne, q_lt, q_le, q_gt, q_ge, q_toInt, q_abs, q_max2, q_lenL, q_lenS, q_lenT, q_ixL, q_ixT, q_ixS, q_isi_ii, q_isi_bi, q_isi_ib, q_isi_bb, q_isi_tt, q_isi_ll, q_isi_lt, q_isi_tl, q_isN_n, q_isN_t, q_isN_i, q_notN_n, q_notN_t, q_notN_i, q_eqS, q_neS, q_all, q_any, q_sum, q_tuple, q_listT, q_listL, q_idI, q_gcd, q_min2, q_isB, q_notB, Bool.not_true, Bool.not_false, Bool.not_not, at1_0, ixN1_0, at2_0, ixN2_0, at2_1, ixN2_1, at3_0, ixN3_0, at3_1, ixN3_1, at3_2, ixN3_2, at4_0, ixN4_0, at4_1, ixN4_1, at4_2, ixN4_2, at4_3, ixN4_3, at5_0, ixN5_0, at5_1, ixN5_1, at5_2, ixN5_2, at5_3, ixN5_3, at5_4, ixN5_4, at6_0, ixN6_0, at6_1, ixN6_1, at6_2, ixN6_2, at6_3, ixN6_3, at6_4, ixN6_4, at6_5, ixN6_5, ln0, ln1, ln2, ln3, ln4, ln5, ln6, ln7, ln8, ln9, ln10, ln11, ln12, ln13, ln14, ln15, ln16, ln17, ln18, ln19, ln20, ln21, ln22, ln23, ln24, nc0, nc1, nc2, nc3, nc4, nc5, nc6, nc7, nc8, nc9, nc10, nc11, nc12, nc13, nc14, nc15, nc16, false_imp_iff, implies_true, beq_self_eq_true, Int.reduceBEq, Int.reduceLT, Int.reduceLE, decide_true, decide_false, List.all_cons, List.all_nil, List.any_cons, List.any_nil, id_eq, Bool.and_true, Bool.true_and, Bool.and_false, Bool.false_and, Bool.or_true, Bool.true_or, Bool.or_false, Bool.false_or, g8, e12]
theorem st_e0 {C : Sem0} {P DR : List D} {L R p : D} {o1 o2 : Int} {s2 s3 s6 s9 s10 s11 : Sl} (h : decide (0 < o2) = false) :
    exB C Fuel Q4 [.own P 1, .own DR 0, s2, s3, .d L, .d R, s6, .d p, .d (.tup [.int o1, .int o2]), s9, s10, s11] = some (.nx [.own P 1, .own DR 0, s2, s3, .d L, .d R, s6, .d p, .d (.tup [.int o1, .int o2]), s9, s10, s11]) := by
  unfold Q4 Q5
  simp only [v_var, v_lit, v_op, v_tup, v_lst, v_and, v_or, v_ite, v_chain, v_call, v_comp, v_mut, v_met, vs_nil, vs_cons, x_asg, x_asgT, x_set, x_unp, x_par, x_aug, x_if, x_ifl, frzE_nil, frzE_cons, frzSl_un, frzSl_d, frzSl_own, x_whl, x_for, x_ret, x_retN, x_expr, x_brk, x_cont, x_pass, xs_nil, xs_cons, lockA, unlockA, evCond, rdAs, rdA, boolA, bd, frz, frzs, frzR, slA, slAs, refs, postA, keepA, keepAs, g_nm', g_tp', g_sb', gs_nil', gs_cons', isOwn, isSet, isLs, setAt, putN_eq, fr_d, fr_un, fr_own0, slT, asD, retT, n_nm, n_tp, n_tl, ns_nil, ns_cons, augF, augI, items, mutKeeps, mutF, pick, List.filterMap_cons, List.filterMap_nil, List.getElem?_cons_zero, List.getElem?_cons_succ, List.getElem?_nil, List.length_cons, List.length_nil, List.cons_append, List.nil_append, List.replicate, List.map_cons, List.map_nil, List.set_cons_zero, List.set_cons_succ, List.take_succ_cons, List.take_zero, Option.map_some, Nat.le_refl, Nat.zero_add, Nat.reduceAdd, Nat.reduceSub, Nat.reduceLeDiff, Nat.reduceEqDiff, if_true, if_false, Bool.false_eq_true, reduceIte, List.nodup_nil, List.nodup_cons, List.not_mem_nil, not_false_eq_true, and_true, true_and, List.mem_cons, or_false, or_self, forall_eq, forall_eq_or_imp,  Nat.le_add_left, Nat.zero_le, q_add, q_sub, q_neg, q_no, q_eq, q_ne, q_lt, q_le, q_gt, q_ge, q_toInt, q_abs, q_max2, q_lenL, q_lenS, q_lenT, q_ixL, q_ixT, q_ixS, q_isi_ii, q_isi_bi, q_isi_ib, q_isi_bb, q_isi_tt, q_isi_ll, q_isi_lt, q_isi_tl, q_isN_n, q_isN_t, q_isN_i, q_notN_n, q_notN_t, q_notN_i, q_eqS, q_neS, q_all, q_any, q_sum, q_tuple, q_listT, q_listL, q_idI, q_gcd, q_min2, q_isB, q_notB, Bool.not_true, Bool.not_false, Bool.not_not, at1_0, ixN1_0, at2_0, ixN2_0, at2_1, ixN2_1, at3_0, ixN3_0, at3_1, ixN3_1, at3_2, ixN3_2, at4_0, ixN4_0, at4_1, ixN4_1, at4_2, ixN4_2, at4_3, ixN4_3, at5_0, ixN5_0, at5_1, ixN5_1, at5_2, ixN5_2, at5_3, ixN5_3, at5_4, ixN5_4, at6_0, ixN6_0, at6_1, ixN6_1, at6_2, ixN6_2, at6_3, ixN6_3, at6_4, ixN6_4, at6_5, ixN6_5, ln0, ln1, ln2, ln3, ln4, ln5, ln6, ln7, ln8, ln9, ln10, ln11, ln12, ln13, ln14, ln15, ln16, ln17, ln18, ln19, ln20, ln21, ln22, ln23, ln24, nc0, nc1, nc2, nc3, nc4, nc5, nc6, nc7, nc8, nc9, nc10, nc11, nc12, nc13, nc14, nc15, nc16, false_imp_iff, implies_true, beq_self_eq_true, Int.reduceBEq, Int.reduceLT, Int.reduceLE, decide_true, decide_false, List.all_cons, List.all_nil, List.any_cons, List.any_nil, id_eq, Bool.and_true, Bool.true_and, Bool.and_false, Bool.false_and, Bool.or_true, Bool.true_or, Bool.or_false, Bool.false_or, h]
theorem st_e1 {C : Sem0} {P DR : List D} {L R p : D} {o1 o2 : Int} {st : Str} {s2 s3 s6 s9 s10 s11 : Sl} (h : decide (0 < o2) = true) (e9 : C 9 [.d (.int o1), .d (.int o2)] = some (.d (.tup [.int o1, .int o2]), [.d (.int o1), .d (.int o2)])) (ne : opF .ne [.tup [.int o1, .int o2], .tup [.int o1, .int o2]] = some (.d (.bl false))) (e5 : C 5 [.d L, .d R, .d (.tup [.int o1, .int o2])] = some (.d p, [.d L, .d R, .d (.tup [.int o1, .int o2])]))
    (rp : opF .repr [.lst [p, p]] = some (.d (.str st))) (ap : mutF .append DR [.tup [.tup [.int o1, .int o2], p]] = some (.non, DR ++ [.tup [.tup [.int o1, .int o2], p]])) :
    exB C Fuel Q4 [.own P 1, .own DR 0, s2, s3, .d L, .d R, s6, .d p, .d (.tup [.int o1, .int o2]), s9, s10, s11] = some (.nx [.own P 1, .own (DR ++ [.tup [.tup [.int o1, .int o2], p]]) 0, s2, s3, .d L, .d R, s6, .d p, .d (.tup [.int o1, .int o2]), s9, s10, s11]) := by
  unfold Q4 Q5
  generalize DR ++ [.tup [.tup [.int o1, .int o2], p]] = DS at *
  simp only [v_var, v_lit, v_op, v_tup, v_lst, v_and, v_or, v_ite, v_chain, v_call, v_comp, v_mut, v_met, vs_nil, vs_cons, x_asg, x_asgT, x_set, x_unp, x_par, x_aug, x_if, x_ifl, frzE_nil, frzE_cons, frzSl_un, frzSl_d, frzSl_own, x_whl, x_for, x_ret, x_retN, x_expr, x_brk, x_cont, x_pass, xs_nil, xs_cons, lockA, unlockA, evCond, rdAs, rdA, boolA, bd, frz, frzs, frzR, slA, slAs, refs, postA, keepA, keepAs, g_nm', g_tp', g_sb', gs_nil', gs_cons', isOwn, isSet, isLs, setAt, putN_eq, fr_d, fr_un, fr_own0, slT, asD, retT, n_nm, n_tp, n_tl, ns_nil, ns_cons, augF, augI, items, mutKeeps, pick, List.filterMap_cons, List.filterMap_nil, List.getElem?_cons_zero, List.getElem?_cons_succ, List.getElem?_nil, List.length_cons, List.length_nil, List.cons_append, List.nil_append, List.replicate, List.map_cons, List.map_nil, List.set_cons_zero, List.set_cons_succ, List.take_succ_cons, List.take_zero, Option.map_some, Nat.le_refl, Nat.zero_add, Nat.reduceAdd, Nat.reduceSub, Nat.reduceLeDiff, Nat.reduceEqDiff, if_true, if_false, Bool.false_eq_true, reduceIte, List.nodup_nil, List.nodup_cons, List.not_mem_nil, not_false_eq_true, and_true, true_and, List.mem_cons, or_false, or_self, forall_eq, forall_eq_or_imp,  Nat.le_add_left, Nat.zero_le, q_add, q_sub, q_neg, q_no, q_eq, q_ne, q_lt, q_le, q_gt, q_ge, q_toInt, q_abs, q_max2, q_lenL, q_lenS, q_lenT, q_ixL, q_ixT, q_ixS, q_isi_ii, q_isi_bi, q_isi_ib, q_isi_bb, q_isi_tt, q_isi_ll, q_isi_lt, q_isi_tl, q_isN_n, q_isN_t, q_isN_i, q_notN_n, q_notN_t, q_notN_i, q_eqS, q_neS, q_all, q_any, q_sum, q_tuple, q_listT, q_listL, q_idI, q_gcd, q_min2, q_isB, q_notB, Bool.not_true, Bool.not_false, Bool.not_not, at1_0, ixN1_0, at2_0, ixN2_0, at2_1, ixN2_1, at3_0, ixN3_0, at3_1, ixN3_1, at3_2, ixN3_2, at4_0, ixN4_0, at4_1, ixN4_1, at4_2, ixN4_2, at4_3, ixN4_3, at5_0, ixN5_0, at5_1, ixN5_1, at5_2, ixN5_2, at5_3, ixN5_3, at5_4, ixN5_4, at6_0, ixN6_0, at6_1, ixN6_1, at6_2, ixN6_2, at6_3, ixN6_3, at6_4, ixN6_4, at6_5, ixN6_5, ln0, ln1, ln2, ln3, ln4, ln5, ln6, ln7, ln8, ln9, ln10, ln11, ln12, ln13, ln14, ln15, ln16, ln17, ln18, ln19, ln20, ln21, ln22, ln23, ln24, nc0, nc1, nc2, nc3, nc4, nc5, nc6, nc7, nc8, nc9, nc10, nc11, nc12, nc13, nc14, nc15, nc16, false_imp_iff, implies_true, beq_self_eq_true, Int.reduceBEq, Int.reduceLT, Int.reduceLE, decide_true, decide_false, List.all_cons, List.all_nil, List.any_cons, List.any_nil, id_eq, Bool.and_true, Bool.true_and, Bool.and_false, Bool.false_and, Bool.or_true, Bool.true_or, Bool.or_false, Bool.false_or, h, e9, ne, e5, rp, ap]
theorem to_q0 {C : Sem0} {x : D} {P DR : List D} {L R : D} {s2 s3 s6 s7 s8 s9 s10 s11 : Sl} (g2 : frS (some s2) = true) : turnF C Fuel (.nm 2) RL0 x [.own P 1, .own DR 0, s2, s3, .d L, .d R, s6, s7, s8, s9, s10, s11] = exB C Fuel Q0 [.own P 1, .own DR 0, .d x, s3, .d L, .d R, s6, s7, s8, s9, s10, s11] := by
  rw [RL0_eq]
  unfold turnF
  generalize Q0 = q at *
  simp only [v_var, v_lit, v_op, v_tup, v_lst, v_and, v_or, v_ite, v_chain, v_call, v_comp, v_mut, v_met, vs_nil, vs_cons, x_asg, x_asgT, x_set, x_unp, x_par, x_aug, x_if, x_ifl, frzE_nil, frzE_cons, frzSl_un, frzSl_d, frzSl_own, x_whl, x_for, x_ret, x_retN, x_expr, x_brk, x_cont, x_pass, xs_nil, xs_cons, lockA, unlockA, evCond, rdAs, rdA, boolA, bd, frz, frzs, frzR, slA, slAs, refs, postA, keepA, keepAs, g_nm', g_tp', g_sb', gs_nil', gs_cons', isOwn, isSet, isLs, setAt, putN_eq, fr_d, fr_un, fr_own0, slT, asD, retT, n_nm, n_tp, n_tl, ns_nil, ns_cons, augF, augI, items, mutKeeps, mutF, pick, List.filterMap_cons, List.filterMap_nil, List.getElem?_cons_zero, List.getElem?_cons_succ, List.getElem?_nil, List.length_cons, List.length_nil, List.cons_append, List.nil_append, List.replicate, List.map_cons, List.map_nil, List.set_cons_zero, List.set_cons_succ, List.take_succ_cons, List.take_zero, Option.map_some, Nat.le_refl, Nat.zero_add, Nat.reduceAdd, Nat.reduceSub, Nat.reduceLeDiff, Nat.reduceEqDiff, if_true, if_false, Bool.false_eq_true, reduceIte, List.nodup_nil, List.nodup_cons, List.not_mem_nil, not_false_eq_true, and_true, true_and, List.mem_cons, or_false, or_self, forall_eq, forall_eq_or_imp,  Nat.le_add_left, Nat.zero_le, q_add, q_sub, q_neg, q_no, q_eq, q_ne, q_lt, q_le, q_gt, q_ge, q_toInt, q_abs, q_max2, q_lenL, q_lenS, q_lenT, q_ixL, q_ixT, q_ixS, q_isi_ii, q_isi_bi, q_isi_ib, q_isi_bb, q_isi_tt, q_isi_ll, q_isi_lt, q_isi_tl, q_isN_n, q_isN_t, q_isN_i, q_notN_n, q_notN_t, q_notN_i, q_eqS, q_neS, q_all, q_any, q_sum, q_tuple, q_listT, q_listL, q_idI, q_gcd, q_min2, q_isB, q_notB, Bool.not_true, Bool.not_false, Bool.not_not, at1_0, ixN1_0, at2_0, ixN2_0, at2_1, ixN2_1, at3_0, ixN3_0, at3_1, ixN3_1, at3_2, ixN3_2, at4_0, ixN4_0, at4_1, ixN4_1, at4_2, ixN4_2, at4_3, ixN4_3, at5_0, ixN5_0, at5_1, ixN5_1, at5_2, ixN5_2, at5_3, ixN5_3, at5_4, ixN5_4, at6_0, ixN6_0, at6_1, ixN6_1, at6_2, ixN6_2, at6_3, ixN6_3, at6_4, ixN6_4, at6_5, ixN6_5, ln0, ln1, ln2, ln3, ln4, ln5, ln6, ln7, ln8, ln9, ln10, ln11, ln12, ln13, ln14, ln15, ln16, ln17, ln18, ln19, ln20, ln21, ln22, ln23, ln24, nc0, nc1, nc2, nc3, nc4, nc5, nc6, nc7, nc8, nc9, nc10, nc11, nc12, nc13, nc14, nc15, nc16, false_imp_iff, implies_true, beq_self_eq_true, Int.reduceBEq, Int.reduceLT, Int.reduceLE, decide_true, decide_false, List.all_cons, List.all_nil, List.any_cons, List.any_nil, id_eq, Bool.and_true, Bool.true_and, Bool.and_false, Bool.false_and, Bool.or_true, Bool.true_or, Bool.or_false, Bool.false_or, g2]
/-- what is drawn -/
def dD (l r p : Int × Int) : D := .tup [rD (pt l r p), rD p]
theorem turn0 (k : Nat) {P : List D} (hP : PotOk P) {l r : Int × Int} {K : Int} (h : Nb l r K) (hK : K < 2 ^ 60) {ps : List (Int × Int)} (hps : ∀ p ∈ ps, Pr l r p) (hl : ps.length < 100) (x : D) {s2 s3 s6 s7 s8 s9 s10 s11 : Sl} (g2 : frS (some s2) = true) (g6 : frS (some s6) = true) (g7 : frS (some s7) = true) (g8 : frS (some s8) = true) :
    ∃ (P' : List D) (ps' : List (Int × Int)) (t6 t7 t8 : Sl), PotOk P' ∧ (∀ p ∈ ps', Pr l r p) ∧ ps'.length ≤ ps.length + 1 ∧ frS (some t6) = true ∧ frS (some t7) = true ∧ frS (some t8) = true ∧ turnF (callAt tb (k + 6)) Fuel (.nm 2) RL0 x [.own P 1, .own (ps.map (dD l r)) 0, s2, s3, .d (rD l), .d (rD r), s6, s7, s8, s9, s10, s11] = some (.nx [.own P' 1, .own (ps'.map (dD l r)) 0, .d x, s3, .d (rD l), .d (rD r), t6, t7, t8, s9, s10, s11]) := by
  obtain ⟨w, P1, hP1, mw, e1⟩ := pick8 (k + 4) hP (xs := [.int 4, .int 40, .int 1000000000]) (by decide) (by decide)
  obtain ⟨v, rfl, v0, v1⟩ : ∃ v : Int, w = .int v ∧ 0 < v ∧ v ≤ 1000000000 := by
    rcases List.mem_cons.mp mw with rfl | mx
    · exact ⟨_, rfl, by decide, by decide⟩
    · rcases List.mem_cons.mp mx with rfl | mx
      · exact ⟨_, rfl, by decide, by decide⟩
      · rcases List.mem_cons.mp mx with rfl | mx
        · exact ⟨_, rfl, by decide, by decide⟩
        · cases mx
  obtain ⟨X, P2, hP2, x0, x1, e2⟩ := draw7 (k + 5) hP1 (m := v) v0 (by omega)
  obtain ⟨Y, P3, hP3, y0, y1, e3⟩ := draw7 (k + 5) hP2 (m := v) v0 (by omega)
  have A := st_a (C := callAt tb (k + 6)) (DR := ps.map (dD l r)) (L := rD l) (R := rD r) (s2 := .d x) (s3 := s3) (s7 := s7) (s8 := s8) (s9 := s9) (s10 := s10) (s11 := s11) g6 rfl e1
  have B := st_b (C := callAt tb (k + 6)) (DR := ps.map (dD l r)) (L := rD l) (R := rD r) (s2 := .d x) (s3 := s3) (s8 := s8) (s9 := s9) (s10 := s10) (s11 := s11) g7 e2 e3
  obtain ⟨p, p0, q0, p1, q1, pg, Cc⟩ : ∃ p : Int × Int, 0 ≤ p.1 ∧ 0 ≤ p.2 ∧ p.1 < 2 ^ 40 ∧ p.2 < 2 ^ 40 ∧ Int.gcd p.1 p.2 = 1 ∧ exB (callAt tb (k + 6)) Fuel Q2 [.own P3 1, .own (ps.map (dD l r)) 0, .d x, s3, .d (rD l), .d (rD r), .d (.int v), .d (.tup [.int X, .int Y]), s8, s9, s10, s11] = exB (callAt tb (k + 6)) Fuel Q3 [.own P3 1, .own (ps.map (dD l r)) 0, .d x, s3, .d (rD l), .d (rD r), .d (.int v), .d (.tup [.int p.1, .int p.2]), s8, s9, s10, s11] := by
    have eq := eqR (X, Y) (0, 0)
    by_cases c : (X, Y) = (0, 0)
    · rw [decide_eq_true c] at eq
      exact ⟨(1, 0), by decide, by decide, by decide, by decide, by decide, st_c1 eq⟩
    · rw [decide_eq_false c] at eq
      by_cases c2 : 0 < Y
      · have r := mk_red (a := X) (b := Y) (by omega)
        have cr := mk_cross (a := X) (b := Y) (by omega)
        obtain ⟨z1, z2⟩ := mk_abs (a := X) (b := Y) (by omega)
        have r1 := r.1
        have n0 : 0 ≤ (mk X Y).1 := by
          have : 0 ≤ (mk X Y).1 * Y := by rw [cr]; exact Int.mul_nonneg x0 (by omega)
          exact Int.nonneg_of_mul_nonneg_left this c2
        exact ⟨mk X Y, n0, by omega, by omega, by omega, r.2, st_c3 eq (decide_eq_true c2) (f9 (k + 5) x0 c2 (by omega) (by omega))⟩
      · exact ⟨(1, 0), by decide, by decide, by decide, by decide, by decide, st_c2 eq (decide_eq_false c2)⟩
  have Dd := st_d (C := callAt tb (k + 6)) (P := P3) (DR := ps.map (dD l r)) (s2 := .d x) (s3 := s3) (s6 := .d (.int v)) (s9 := s9) (s10 := s10) (s11 := s11) g8 (f12 (k + 5) h hK p0 q0 p1 q1)
  have T := (to_q0 (C := callAt tb (k + 6)) (x := x) (P := P) (DR := ps.map (dD l r)) (L := rD l) (R := rD r) (s3 := s3) (s6 := s6) (s7 := s7) (s8 := s8) (s9 := s9) (s10 := s10) (s11 := s11) g2).trans (A.trans (B.trans (Cc.trans Dd)))
  by_cases o : 0 < (pt l r p).2
  · have pr : Pr l r p := ⟨p0, q0, p1, q1, o, pg⟩
    obtain ⟨b0, b1, b2⟩ := pr.big h hK
    have e9 := f9 (k + 5) b0 o (by omega) (by omega)
    rw [mk_self ⟨o, gcd_pt h.det pg⟩] at e9
    have rp : opF .repr [.lst [rD p, rD p]] = some (.d (.str (toPy (.lst [rD p, rD p])).shown)) := q_rp rfl (by
      rw [wee_lst, wees_cons, wees_cons, wees_nil]
      have w1 : wee (.int p.1) = true := wee_int (n := 40) (by omega) (by decide) (by decide)
      have w2 : wee (.int p.2) = true := wee_int (n := 40) (by omega) (by decide) (by decide)
      have w3 : wee (rD p) = true := by
        show (wee (.int p.1) && (wee (.int p.2) && true)) = true
        rw [w1, w2]; rfl
      rw [w3]; rfl) rfl
    have ap : mutF .append (ps.map (dD l r)) [dD l r p] = some (.non, ps.map (dD l r) ++ [dD l r p]) := if_pos (by rw [List.length_map]; exact Nat.lt_of_lt_of_le hl (lnn (by decide)))
    have E := st_e1 (C := callAt tb (k + 6)) (P := P3) (s2 := .d x) (s3 := s3) (s6 := .d (.int v)) (s9 := s9) (s10 := s10) (s11 := s11) (decide_eq_true o) e9 (neR0 (pt l r p)) (f5 k h hK pr) rp ap
    refine ⟨P3, ps ++ [p], .d (.int v), .d (rD p), .d (rD (pt l r p)), hP3, fun q hq => ?_, by simp, fr_d _, fr_d _, fr_d _, ?_⟩
    · rcases List.mem_append.mp hq with hq | hq
      · exact hps q hq
      · rw [List.mem_singleton.mp hq]; exact pr
    · rw [List.map_append]
      exact T.trans E
  · exact ⟨P3, ps, .d (.int v), .d (rD p), .d (rD (pt l r p)), hP3, hps, by omega, fr_d _, fr_d _, fr_d _, T.trans (st_e0 (p := rD p) (o1 := (pt l r p).1) (decide_eq_false o))⟩
theorem loop0 (k : Nat) {l r : Int × Int} {K : Int} (h : Nb l r K) (hK : K < 2 ^ 60) : ∀ (ds : List D) {P : List D} (hP : PotOk P) {ps : List (Int × Int)} (hps : ∀ p ∈ ps, Pr l r p) (hl : ps.length + ds.length < 100) {s2 s3 s6 s7 s8 s9 s10 s11 : Sl} (g2 : frS (some s2) = true) (g6 : frS (some s6) = true) (g7 : frS (some s7) = true) (g8 : frS (some s8) = true),
    ∃ (P' : List D) (ps' : List (Int × Int)) (t2 t6 t7 t8 : Sl), PotOk P' ∧ (∀ p ∈ ps', Pr l r p) ∧ ps'.length < 100 ∧ frS (some t7) = true ∧ frS (some t8) = true ∧ forL (turnF (callAt tb (k + 6)) Fuel (.nm 2) RL0) ds [.own P 1, .own (ps.map (dD l r)) 0, s2, s3, .d (rD l), .d (rD r), s6, s7, s8, s9, s10, s11] = some (.nx [.own P' 1, .own (ps'.map (dD l r)) 0, t2, s3, .d (rD l), .d (rD r), t6, t7, t8, s9, s10, s11])
  | [], P, hP, ps, hps, hl, s2, s3, s6, s7, s8, s9, s10, s11, g2, g6, g7, g8 => ⟨P, ps, s2, s6, s7, s8, hP, hps, by simpa using hl, g7, g8, rfl⟩
  | x :: ds, P, hP, ps, hps, hl, s2, s3, s6, s7, s8, s9, s10, s11, g2, g6, g7, g8 => by
    rw [List.length_cons] at hl
    obtain ⟨P1, ps1, t6, t7, t8, hP1, hps1, l1, g6', g7', g8', T⟩ := turn0 k hP h hK hps (by omega) x (s3 := s3) (s9 := s9) (s10 := s10) (s11 := s11) g2 g6 g7 g8
    obtain ⟨P', ps', u2, u6, u7, u8, a1, a2, a3, a4, a5, e⟩ := loop0 k h hK ds hP1 hps1 (by omega) (s2 := .d x) (s3 := s3) (s9 := s9) (s10 := s10) (s11 := s11) (fr_d _) g6' g7' g8'
    exact ⟨P', ps', u2, u6, u7, u8, a1, a2, a3, a4, a5, (for_cons T).trans e⟩
/-! ### who is below whom -/
theorem turnV {C : Sem0} {P DR : List D} {L R O O' : D} {x y x' y' p q : Int} {t : Bool} {m : Nat} {s2 s3 s6 s7 s10 s11 : Sl} (g10 : frS (some s10) = true) (g11 : frS (some s11) = true) (e10 : C 10 [.d O, .d O'] = some (.d (.bl t), [.d O, .d O'])) (m1 : opF .mul [.int y, .int x'] = some (.d (.int p))) (m2 : opF .mul [.int y', .int x] = some (.d (.int q))) (hd : decide (p < q) = t) :
    turnF C Fuel (.tp [(.nm 10), (.nm 11)]) V0 (.tup [O', .tup [.int x', .int y']]) [.own P 1, .own DR m, s2, s3, .d L, .d R, s6, s7, .d O, .d (.tup [.int x, .int y]), s10, s11] = some (.nx [.own P 1, .own DR m, s2, s3, .d L, .d R, s6, s7, .d O, .d (.tup [.int x, .int y]), .d O', .d (.tup [.int x', .int y'])]) := by
  have nb := ne_bb t
  unfold turnF V0
  simp only [v_var, v_lit, v_op, v_tup, v_lst, v_and, v_or, v_ite, v_chain, v_call, v_comp, v_mut, v_met, vs_nil, vs_cons, x_asg, x_asgT, x_set, x_unp, x_par, x_aug, x_if, x_ifl, frzE_nil, frzE_cons, frzSl_un, frzSl_d, frzSl_own, x_whl, x_for, x_ret, x_retN, x_expr, x_brk, x_cont, x_pass, xs_nil, xs_cons, lockA, unlockA, evCond, rdAs, rdA, boolA, bd, frz, frzs, frzR, slA, slAs, refs, postA, keepA, keepAs, g_nm', g_tp', g_sb', gs_nil', gs_cons', isOwn, isSet, isLs, setAt, putN_eq, fr_d, fr_un, fr_own0, slT, asD, retT, n_nm, n_tp, n_tl, ns_nil, ns_cons, augF, augI, items, mutKeeps, mutF, pick, List.filterMap_cons, List.filterMap_nil, List.getElem?_cons_zero, List.getElem?_cons_succ, List.getElem?_nil, List.length_cons, List.length_nil, List.cons_append, List.nil_append, List.replicate, List.map_cons, List.map_nil, List.set_cons_zero, List.set_cons_succ, List.take_succ_cons, List.take_zero, Option.map_some, Nat.le_refl, Nat.zero_add, Nat.reduceAdd, Nat.reduceSub, Nat.reduceLeDiff, Nat.reduceEqDiff, if_true, if_false, Bool.false_eq_true, reduceIte, List.nodup_nil, List.nodup_cons, List.not_mem_nil, not_false_eq_true, and_true, true_and, List.mem_cons, or_false, or_self, forall_eq, forall_eq_or_imp,  Nat.le_add_left, Nat.zero_le, q_add, q_sub, q_neg, q_no, q_eq, q_ne, q_lt, q_le, q_gt, q_ge, q_toInt, q_abs, q_max2, q_lenL, q_lenS, q_lenT, q_ixL, q_ixT, q_ixS, q_isi_ii, q_isi_bi, q_isi_ib, q_isi_bb, q_isi_tt, q_isi_ll, q_isi_lt, q_isi_tl, q_isN_n, q_isN_t, q_isN_i, q_notN_n, q_notN_t, q_notN_i, q_eqS, q_neS, q_all, q_any, q_sum, q_tuple, q_listT, q_listL, q_idI, q_gcd, q_min2, q_isB, q_notB, Bool.not_true, Bool.not_false, Bool.not_not, at1_0, ixN1_0, at2_0, ixN2_0, at2_1, ixN2_1, at3_0, ixN3_0, at3_1, ixN3_1, at3_2, ixN3_2, at4_0, ixN4_0, at4_1, ixN4_1, at4_2, ixN4_2, at4_3, ixN4_3, at5_0, ixN5_0, at5_1, ixN5_1, at5_2, ixN5_2, at5_3, ixN5_3, at5_4, ixN5_4, at6_0, ixN6_0, at6_1, ixN6_1, at6_2, ixN6_2, at6_3, ixN6_3, at6_4, ixN6_4, at6_5, ixN6_5, ln0, ln1, ln2, ln3, ln4, ln5, ln6, ln7, ln8, ln9, ln10, ln11, ln12, ln13, ln14, ln15, ln16, ln17, ln18, ln19, ln20, ln21, ln22, ln23, ln24, nc0, nc1, nc2, nc3, nc4, nc5, nc6, nc7, nc8, nc9, nc10, nc11, nc12, nc13, nc14, nc15, nc16, false_imp_iff, implies_true, beq_self_eq_true, Int.reduceBEq, Int.reduceLT, Int.reduceLE, decide_true, decide_false, List.all_cons, List.all_nil, List.any_cons, List.any_nil, id_eq, Bool.and_true, Bool.true_and, Bool.and_false, Bool.false_and, Bool.or_true, Bool.true_or, Bool.or_false, Bool.false_or, g10, g11, e10, m1, m2, hd, nb]
theorem below_iff {l r p q : Int × Int} (det : r.1 * l.2 - l.1 * r.2 = 1) : decide ((pt l r p).1 * (pt l r q).2 < (pt l r q).1 * (pt l r p).2) = decide (p.2 * q.1 < q.2 * p.1) := by
  have e : (pt l r q).1 * (pt l r p).2 - (pt l r p).1 * (pt l r q).2 = (q.2 * p.1 - p.2 * q.1) * (r.1 * l.2 - l.1 * r.2) := by
    show (q.1 * l.1 + q.2 * r.1) * (p.1 * l.2 + p.2 * r.2) - (p.1 * l.1 + p.2 * r.1) * (q.1 * l.2 + q.2 * r.2) = _
    grind
  rw [det, Int.mul_one] at e
  by_cases c : p.2 * q.1 < q.2 * p.1
  · rw [decide_eq_true c, decide_eq_true (by omega)]
  · rw [decide_eq_false c, decide_eq_false (by omega)]
theorem loopV (k : Nat) {P DR : List D} {l r : Int × Int} {K : Int} (h : Nb l r K) (hK : K < 2 ^ 60) {p : Int × Int} (hp : Pr l r p) {m : Nat} {s2 s3 s6 s7 : Sl} : ∀ (qs : List (Int × Int)), (∀ q ∈ qs, Pr l r q) → ∀ {s10 s11 : Sl}, frS (some s10) = true → frS (some s11) = true →
    ∃ t10 t11, frS (some t10) = true ∧ frS (some t11) = true ∧ forL (turnF (callAt tb (k + 1)) Fuel (.tp [(.nm 10), (.nm 11)]) V0) (qs.map (dD l r)) [.own P 1, .own DR m, s2, s3, .d (rD l), .d (rD r), s6, s7, .d (rD (pt l r p)), .d (rD p), s10, s11] = some (.nx [.own P 1, .own DR m, s2, s3, .d (rD l), .d (rD r), s6, s7, .d (rD (pt l r p)), .d (rD p), t10, t11])
  | [], _, s10, s11, g10, g11 => ⟨s10, s11, g10, g11, rfl⟩
  | q :: qs, hq, s10, s11, g10, g11 => by
    have hq1 := hq q (List.mem_cons_self ..)
    obtain ⟨a0, a1, a2⟩ := hp.big h hK
    obtain ⟨b0, b1, b2⟩ := hq1.big h hK
    have a3 := hp.o2
    have b3 := hq1.o2
    have e10 := f10 k (p := pt l r p) (q := pt l r q) (q_mulB (by omega) (by omega)) (q_mulB (by omega) (by omega))
    rw [below_iff h.det] at e10
    obtain ⟨x0, y0, x1, y1, _, _⟩ := hp
    obtain ⟨x0', y0', x1', y1', _, _⟩ := hq1
    have T := turnV (C := callAt tb (k + 1)) (P := P) (DR := DR) (L := rD l) (R := rD r) (m := m) (s2 := s2) (s3 := s3) (s6 := s6) (s7 := s7) (x := p.1) (y := p.2) (x' := q.1) (y' := q.2) g10 g11 e10 (q_mulB (by omega) (by omega)) (q_mulB (by omega) (by omega)) rfl
    obtain ⟨t10, t11, h10, h11, e⟩ := loopV k (P := P) (DR := DR) h hK ⟨x0, y0, x1, y1, a3, ‹_›⟩ (m := m) (s2 := s2) (s3 := s3) (s6 := s6) (s7 := s7) qs (fun z hz => hq z (List.mem_cons_of_mem _ hz)) (s10 := .d (rD (pt l r q))) (s11 := .d (rD q)) (fr_d _) (fr_d _)
    exact ⟨t10, t11, h10, h11, (for_cons T).trans e⟩
theorem turnU {C : Sem0} {P DR : List D} {L R O N : D} {s2 s3 s6 s7 s8 s9 s10 s11 t10 t11 : Sl} (g8 : frS (some s8) = true) (g9 : frS (some s9) = true) (ws : wkL .seq [.lst DR] = some DR) (lp : forL (turnF C Fuel (.tp [(.nm 10), (.nm 11)]) V0) DR [.own P 1, .own DR 4, s2, s3, .d L, .d R, s6, s7, .d O, .d N, s10, s11] = some (.nx [.own P 1, .own DR 4, s2, s3, .d L, .d R, s6, s7, .d O, .d N, t10, t11])) :
    turnF C Fuel (.tp [(.nm 8), (.nm 9)]) RL1 (.tup [O, N]) [.own P 1, .own DR 2, s2, s3, .d L, .d R, s6, s7, s8, s9, s10, s11] = some (.nx [.own P 1, .own DR 2, s2, s3, .d L, .d R, s6, s7, .d O, .d N, t10, t11]) := by
  rw [RL1_eq]
  unfold turnF U0
  generalize V0 = v at *
  simp only [v_var, v_lit, v_op, v_tup, v_lst, v_and, v_or, v_ite, v_chain, v_call, v_comp, v_mut, v_met, vs_nil, vs_cons, x_asg, x_asgT, x_set, x_unp, x_par, x_aug, x_if, x_ifl, frzE_nil, frzE_cons, frzSl_un, frzSl_d, frzSl_own, x_whl, x_for, x_ret, x_retN, x_expr, x_brk, x_cont, x_pass, xs_nil, xs_cons, lockA, unlockA, evCond, rdAs, rdA, boolA, bd, frz, frzs, frzR, slA, slAs, refs, postA, keepA, keepAs, g_nm', g_tp', g_sb', gs_nil', gs_cons', isOwn, isSet, isLs, setAt, putN_eq, fr_d, fr_un, fr_own0, slT, asD, retT, n_nm, n_tp, n_tl, ns_nil, ns_cons, augF, augI, items, mutKeeps, mutF, pick, List.filterMap_cons, List.filterMap_nil, List.getElem?_cons_zero, List.getElem?_cons_succ, List.getElem?_nil, List.length_cons, List.length_nil, List.cons_append, List.nil_append, List.replicate, List.map_cons, List.map_nil, List.set_cons_zero, List.set_cons_succ, List.take_succ_cons, List.take_zero, Option.map_some, Nat.le_refl, Nat.zero_add, Nat.reduceAdd, Nat.reduceSub, Nat.reduceLeDiff, Nat.reduceEqDiff, if_true, if_false, Bool.false_eq_true, reduceIte, List.nodup_nil, List.nodup_cons, List.not_mem_nil, not_false_eq_true, and_true, true_and, List.mem_cons, or_false, or_self, forall_eq, forall_eq_or_imp,  Nat.le_add_left, Nat.zero_le, q_add, q_sub, q_neg, q_no, q_eq, q_ne, q_lt, q_le, q_gt, q_ge, q_toInt, q_abs, q_max2, q_lenL, q_lenS, q_lenT, q_ixL, q_ixT, q_ixS, q_isi_ii, q_isi_bi, q_isi_ib, q_isi_bb, q_isi_tt, q_isi_ll, q_isi_lt, q_isi_tl, q_isN_n, q_isN_t, q_isN_i, q_notN_n, q_notN_t, q_notN_i, q_eqS, q_neS, q_all, q_any, q_sum, q_tuple, q_listT, q_listL, q_idI, q_gcd, q_min2, q_isB, q_notB, Bool.not_true, Bool.not_false, Bool.not_not, at1_0, ixN1_0, at2_0, ixN2_0, at2_1, ixN2_1, at3_0, ixN3_0, at3_1, ixN3_1, at3_2, ixN3_2, at4_0, ixN4_0, at4_1, ixN4_1, at4_2, ixN4_2, at4_3, ixN4_3, at5_0, ixN5_0, at5_1, ixN5_1, at5_2, ixN5_2, at5_3, ixN5_3, at5_4, ixN5_4, at6_0, ixN6_0, at6_1, ixN6_1, at6_2, ixN6_2, at6_3, ixN6_3, at6_4, ixN6_4, at6_5, ixN6_5, ln0, ln1, ln2, ln3, ln4, ln5, ln6, ln7, ln8, ln9, ln10, ln11, ln12, ln13, ln14, ln15, ln16, ln17, ln18, ln19, ln20, ln21, ln22, ln23, ln24, nc0, nc1, nc2, nc3, nc4, nc5, nc6, nc7, nc8, nc9, nc10, nc11, nc12, nc13, nc14, nc15, nc16, false_imp_iff, implies_true, beq_self_eq_true, Int.reduceBEq, Int.reduceLT, Int.reduceLE, decide_true, decide_false, List.all_cons, List.all_nil, List.any_cons, List.any_nil, id_eq, Bool.and_true, Bool.true_and, Bool.and_false, Bool.false_and, Bool.or_true, Bool.true_or, Bool.or_false, Bool.false_or, g8, g9, ws, lp]
theorem loopU (k : Nat) {P : List D} {l r : Int × Int} {K : Int} (h : Nb l r K) (hK : K < 2 ^ 60) {ps : List (Int × Int)} (hps : ∀ p ∈ ps, Pr l r p) {s2 s3 s6 s7 : Sl} : ∀ (qs : List (Int × Int)), (∀ q ∈ qs, Pr l r q) → ∀ {s8 s9 s10 s11 : Sl}, frS (some s8) = true → frS (some s9) = true → frS (some s10) = true → frS (some s11) = true →
    ∃ t8 t9 t10 t11, frS (some t8) = true ∧ frS (some t9) = true ∧ forL (turnF (callAt tb (k + 1)) Fuel (.tp [(.nm 8), (.nm 9)]) RL1) (qs.map (dD l r)) [.own P 1, .own (ps.map (dD l r)) 2, s2, s3, .d (rD l), .d (rD r), s6, s7, s8, s9, s10, s11] = some (.nx [.own P 1, .own (ps.map (dD l r)) 2, s2, s3, .d (rD l), .d (rD r), s6, s7, t8, t9, t10, t11])
  | [], _, s8, s9, s10, s11, g8, g9, g10, g11 => ⟨s8, s9, s10, s11, g8, g9, rfl⟩
  | q :: qs, hq, s8, s9, s10, s11, g8, g9, g10, g11 => by
    obtain ⟨t10, t11, h10, h11, lp⟩ := loopV k (P := P) (DR := ps.map (dD l r)) h hK (hq q (List.mem_cons_self ..)) (m := 4) (s2 := s2) (s3 := s3) (s6 := s6) (s7 := s7) ps hps (s10 := s10) (s11 := s11) g10 g11
    have T := turnU (C := callAt tb (k + 1)) (L := rD l) (R := rD r) (N := rD q) g8 g9 rfl lp
    obtain ⟨u8, u9, u10, u11, i8, i9, e⟩ := loopU k (P := P) h hK hps (s2 := s2) (s3 := s3) (s6 := s6) (s7 := s7) qs (fun z hz => hq z (List.mem_cons_of_mem _ hz)) (s8 := .d (rD (pt l r q))) (s9 := .d (rD q)) (fr_d _) (fr_d _) h10 h11
    exact ⟨u8, u9, u10, u11, i8, i9, (for_cons T).trans e⟩
/-! ### from one half -/
theorem turnY {C : Sem0} {P DR : List D} {L R M O : D} {x y : Int} {b1 b2 : Bool} {s2 s6 s7 s8 s9 s10 s11 : Sl} (g7 : frS (some s7) = true) (g8 : frS (some s8) = true) (h1 : decide (y ≤ x) = b1) (h2 : decide (x ≤ y) = b2)
    (c1 : b1 = true → C 5 [.d L, .d M, .d O] = some (.d (.tup [.int (x - y), .int y]), [.d L, .d M, .d O])) (c2 : b2 = true → C 5 [.d M, .d R, .d O] = some (.d (.tup [.int x, .int (y - x)]), [.d M, .d R, .d O])) :
    turnF C Fuel (.tp [(.nm 8), (.nm 7)]) RL2 (.tup [O, .tup [.int x, .int y]]) [.own P 1, .own DR 2, s2, .d M, .d L, .d R, s6, s7, s8, s9, s10, s11] = some (.nx [.own P 1, .own DR 2, s2, .d M, .d L, .d R, s6, .d (.tup [.int x, .int y]), .d O, s9, s10, s11]) := by
  have n1 : opF .ne [.tup [.int (x - y), .int y], .tup [.int (x - y), .int y]] = some (.d (.bl false)) := neR0 (x - y, y)
  have n2 : opF .ne [.tup [.int x, .int (y - x)], .tup [.int x, .int (y - x)]] = some (.d (.bl false)) := neR0 (x, y - x)
  rw [RL2_eq]
  cases b1 with
  | true =>
    have c1 := c1 rfl
    cases b2 with
    | true =>
      have c2 := c2 rfl
      unfold turnF Y0 Y1 Y2
      simp only [v_var, v_lit, v_op, v_tup, v_lst, v_and, v_or, v_ite, v_chain, v_call, v_comp, v_mut, v_met, vs_nil, vs_cons, x_asg, x_asgT, x_set, x_unp, x_par, x_aug, x_if, x_ifl, frzE_nil, frzE_cons, frzSl_un, frzSl_d, frzSl_own, x_whl, x_for, x_ret, x_retN, x_expr, x_brk, x_cont, x_pass, xs_nil, xs_cons, lockA, unlockA, evCond, rdAs, rdA, boolA, bd, frz, frzs, frzR, slA, slAs, refs, postA, keepA, keepAs, g_nm', g_tp', g_sb', gs_nil', gs_cons', isOwn, isSet, isLs, setAt, putN_eq, fr_d, fr_un, fr_own0, slT, asD, retT, n_nm, n_tp, n_tl, ns_nil, ns_cons, augF, augI, items, mutKeeps, mutF, pick, List.filterMap_cons, List.filterMap_nil, List.getElem?_cons_zero, List.getElem?_cons_succ, List.getElem?_nil, List.length_cons, List.length_nil, List.cons_append, List.nil_append, List.replicate, List.map_cons, List.map_nil, List.set_cons_zero, List.set_cons_succ, List.take_succ_cons, List.take_zero, Option.map_some, Nat.le_refl, Nat.zero_add, Nat.reduceAdd, Nat.reduceSub, Nat.reduceLeDiff, Nat.reduceEqDiff, if_true, if_false, Bool.false_eq_true, reduceIte, List.nodup_nil, List.nodup_cons, List.not_mem_nil, not_false_eq_true, and_true, true_and, List.mem_cons, or_false, or_self, forall_eq, forall_eq_or_imp,  Nat.le_add_left, Nat.zero_le, q_add, q_sub, q_neg, q_no, q_eq, q_ne, q_lt, q_le, q_gt, q_ge, q_toInt, q_abs, q_max2, q_lenL, q_lenS, q_lenT, q_ixL, q_ixT, q_ixS, q_isi_ii, q_isi_bi, q_isi_ib, q_isi_bb, q_isi_tt, q_isi_ll, q_isi_lt, q_isi_tl, q_isN_n, q_isN_t, q_isN_i, q_notN_n, q_notN_t, q_notN_i, q_eqS, q_neS, q_all, q_any, q_sum, q_tuple, q_listT, q_listL, q_idI, q_gcd, q_min2, q_isB, q_notB, Bool.not_true, Bool.not_false, Bool.not_not, at1_0, ixN1_0, at2_0, ixN2_0, at2_1, ixN2_1, at3_0, ixN3_0, at3_1, ixN3_1, at3_2, ixN3_2, at4_0, ixN4_0, at4_1, ixN4_1, at4_2, ixN4_2, at4_3, ixN4_3, at5_0, ixN5_0, at5_1, ixN5_1, at5_2, ixN5_2, at5_3, ixN5_3, at5_4, ixN5_4, at6_0, ixN6_0, at6_1, ixN6_1, at6_2, ixN6_2, at6_3, ixN6_3, at6_4, ixN6_4, at6_5, ixN6_5, ln0, ln1, ln2, ln3, ln4, ln5, ln6, ln7, ln8, ln9, ln10, ln11, ln12, ln13, ln14, ln15, ln16, ln17, ln18, ln19, ln20, ln21, ln22, ln23, ln24, nc0, nc1, nc2, nc3, nc4, nc5, nc6, nc7, nc8, nc9, nc10, nc11, nc12, nc13, nc14, nc15, nc16, false_imp_iff, implies_true, beq_self_eq_true, Int.reduceBEq, Int.reduceLT, Int.reduceLE, decide_true, decide_false, List.all_cons, List.all_nil, List.any_cons, List.any_nil, id_eq, Bool.and_true, Bool.true_and, Bool.and_false, Bool.false_and, Bool.or_true, Bool.true_or, Bool.or_false, Bool.false_or, g7, g8, h1, h2, c1, c2, n1, n2]
    | false =>
      unfold turnF Y0 Y1 Y2
      simp only [v_var, v_lit, v_op, v_tup, v_lst, v_and, v_or, v_ite, v_chain, v_call, v_comp, v_mut, v_met, vs_nil, vs_cons, x_asg, x_asgT, x_set, x_unp, x_par, x_aug, x_if, x_ifl, frzE_nil, frzE_cons, frzSl_un, frzSl_d, frzSl_own, x_whl, x_for, x_ret, x_retN, x_expr, x_brk, x_cont, x_pass, xs_nil, xs_cons, lockA, unlockA, evCond, rdAs, rdA, boolA, bd, frz, frzs, frzR, slA, slAs, refs, postA, keepA, keepAs, g_nm', g_tp', g_sb', gs_nil', gs_cons', isOwn, isSet, isLs, setAt, putN_eq, fr_d, fr_un, fr_own0, slT, asD, retT, n_nm, n_tp, n_tl, ns_nil, ns_cons, augF, augI, items, mutKeeps, mutF, pick, List.filterMap_cons, List.filterMap_nil, List.getElem?_cons_zero, List.getElem?_cons_succ, List.getElem?_nil, List.length_cons, List.length_nil, List.cons_append, List.nil_append, List.replicate, List.map_cons, List.map_nil, List.set_cons_zero, List.set_cons_succ, List.take_succ_cons, List.take_zero, Option.map_some, Nat.le_refl, Nat.zero_add, Nat.reduceAdd, Nat.reduceSub, Nat.reduceLeDiff, Nat.reduceEqDiff, if_true, if_false, Bool.false_eq_true, reduceIte, List.nodup_nil, List.nodup_cons, List.not_mem_nil, not_false_eq_true, and_true, true_and, List.mem_cons, or_false, or_self, forall_eq, forall_eq_or_imp,  Nat.le_add_left, Nat.zero_le, q_add, q_sub, q_neg, q_no, q_eq, q_ne, q_lt, q_le, q_gt, q_ge, q_toInt, q_abs, q_max2, q_lenL, q_lenS, q_lenT, q_ixL, q_ixT, q_ixS, q_isi_ii, q_isi_bi, q_isi_ib, q_isi_bb, q_isi_tt, q_isi_ll, q_isi_lt, q_isi_tl, q_isN_n, q_isN_t, q_isN_i, q_notN_n, q_notN_t, q_notN_i, q_eqS, q_neS, q_all, q_any, q_sum, q_tuple, q_listT, q_listL, q_idI, q_gcd, q_min2, q_isB, q_notB, Bool.not_true, Bool.not_false, Bool.not_not, at1_0, ixN1_0, at2_0, ixN2_0, at2_1, ixN2_1, at3_0, ixN3_0, at3_1, ixN3_1, at3_2, ixN3_2, at4_0, ixN4_0, at4_1, ixN4_1, at4_2, ixN4_2, at4_3, ixN4_3, at5_0, ixN5_0, at5_1, ixN5_1, at5_2, ixN5_2, at5_3, ixN5_3, at5_4, ixN5_4, at6_0, ixN6_0, at6_1, ixN6_1, at6_2, ixN6_2, at6_3, ixN6_3, at6_4, ixN6_4, at6_5, ixN6_5, ln0, ln1, ln2, ln3, ln4, ln5, ln6, ln7, ln8, ln9, ln10, ln11, ln12, ln13, ln14, ln15, ln16, ln17, ln18, ln19, ln20, ln21, ln22, ln23, ln24, nc0, nc1, nc2, nc3, nc4, nc5, nc6, nc7, nc8, nc9, nc10, nc11, nc12, nc13, nc14, nc15, nc16, false_imp_iff, implies_true, beq_self_eq_true, Int.reduceBEq, Int.reduceLT, Int.reduceLE, decide_true, decide_false, List.all_cons, List.all_nil, List.any_cons, List.any_nil, id_eq, Bool.and_true, Bool.true_and, Bool.and_false, Bool.false_and, Bool.or_true, Bool.true_or, Bool.or_false, Bool.false_or, g7, g8, h1, h2, c1, n1]
  | false =>
    cases b2 with
    | true =>
      have c2 := c2 rfl
      unfold turnF Y0 Y1 Y2
      simp only [v_var, v_lit, v_op, v_tup, v_lst, v_and, v_or, v_ite, v_chain, v_call, v_comp, v_mut, v_met, vs_nil, vs_cons, x_asg, x_asgT, x_set, x_unp, x_par, x_aug, x_if, x_ifl, frzE_nil, frzE_cons, frzSl_un, frzSl_d, frzSl_own, x_whl, x_for, x_ret, x_retN, x_expr, x_brk, x_cont, x_pass, xs_nil, xs_cons, lockA, unlockA, evCond, rdAs, rdA, boolA, bd, frz, frzs, frzR, slA, slAs, refs, postA, keepA, keepAs, g_nm', g_tp', g_sb', gs_nil', gs_cons', isOwn, isSet, isLs, setAt, putN_eq, fr_d, fr_un, fr_own0, slT, asD, retT, n_nm, n_tp, n_tl, ns_nil, ns_cons, augF, augI, items, mutKeeps, mutF, pick, List.filterMap_cons, List.filterMap_nil, List.getElem?_cons_zero, List.getElem?_cons_succ, List.getElem?_nil, List.length_cons, List.length_nil, List.cons_append, List.nil_append, List.replicate, List.map_cons, List.map_nil, List.set_cons_zero, List.set_cons_succ, List.take_succ_cons, List.take_zero, Option.map_some, Nat.le_refl, Nat.zero_add, Nat.reduceAdd, Nat.reduceSub, Nat.reduceLeDiff, Nat.reduceEqDiff, if_true, if_false, Bool.false_eq_true, reduceIte, List.nodup_nil, List.nodup_cons, List.not_mem_nil, not_false_eq_true, and_true, true_and, List.mem_cons, or_false, or_self, forall_eq, forall_eq_or_imp,  Nat.le_add_left, Nat.zero_le, q_add, q_sub, q_neg, q_no, q_eq, q_ne, q_lt, q_le, q_gt, q_ge, q_toInt, q_abs, q_max2, q_lenL, q_lenS, q_lenT, q_ixL, q_ixT, q_ixS, q_isi_ii, q_isi_bi, q_isi_ib, q_isi_bb, q_isi_tt, q_isi_ll, q_isi_lt, q_isi_tl, q_isN_n, q_isN_t, q_isN_i, q_notN_n, q_notN_t, q_notN_i, q_eqS, q_neS, q_all, q_any, q_sum, q_tuple, q_listT, q_listL, q_idI, q_gcd, q_min2, q_isB, q_notB, Bool.not_true, Bool.not_false, Bool.not_not, at1_0, ixN1_0, at2_0, ixN2_0, at2_1, ixN2_1, at3_0, ixN3_0, at3_1, ixN3_1, at3_2, ixN3_2, at4_0, ixN4_0, at4_1, ixN4_1, at4_2, ixN4_2, at4_3, ixN4_3, at5_0, ixN5_0, at5_1, ixN5_1, at5_2, ixN5_2, at5_3, ixN5_3, at5_4, ixN5_4, at6_0, ixN6_0, at6_1, ixN6_1, at6_2, ixN6_2, at6_3, ixN6_3, at6_4, ixN6_4, at6_5, ixN6_5, ln0, ln1, ln2, ln3, ln4, ln5, ln6, ln7, ln8, ln9, ln10, ln11, ln12, ln13, ln14, ln15, ln16, ln17, ln18, ln19, ln20, ln21, ln22, ln23, ln24, nc0, nc1, nc2, nc3, nc4, nc5, nc6, nc7, nc8, nc9, nc10, nc11, nc12, nc13, nc14, nc15, nc16, false_imp_iff, implies_true, beq_self_eq_true, Int.reduceBEq, Int.reduceLT, Int.reduceLE, decide_true, decide_false, List.all_cons, List.all_nil, List.any_cons, List.any_nil, id_eq, Bool.and_true, Bool.true_and, Bool.and_false, Bool.false_and, Bool.or_true, Bool.true_or, Bool.or_false, Bool.false_or, g7, g8, h1, h2, c2, n2]
    | false =>
      unfold turnF Y0 Y1 Y2
      simp only [v_var, v_lit, v_op, v_tup, v_lst, v_and, v_or, v_ite, v_chain, v_call, v_comp, v_mut, v_met, vs_nil, vs_cons, x_asg, x_asgT, x_set, x_unp, x_par, x_aug, x_if, x_ifl, frzE_nil, frzE_cons, frzSl_un, frzSl_d, frzSl_own, x_whl, x_for, x_ret, x_retN, x_expr, x_brk, x_cont, x_pass, xs_nil, xs_cons, lockA, unlockA, evCond, rdAs, rdA, boolA, bd, frz, frzs, frzR, slA, slAs, refs, postA, keepA, keepAs, g_nm', g_tp', g_sb', gs_nil', gs_cons', isOwn, isSet, isLs, setAt, putN_eq, fr_d, fr_un, fr_own0, slT, asD, retT, n_nm, n_tp, n_tl, ns_nil, ns_cons, augF, augI, items, mutKeeps, mutF, pick, List.filterMap_cons, List.filterMap_nil, List.getElem?_cons_zero, List.getElem?_cons_succ, List.getElem?_nil, List.length_cons, List.length_nil, List.cons_append, List.nil_append, List.replicate, List.map_cons, List.map_nil, List.set_cons_zero, List.set_cons_succ, List.take_succ_cons, List.take_zero, Option.map_some, Nat.le_refl, Nat.zero_add, Nat.reduceAdd, Nat.reduceSub, Nat.reduceLeDiff, Nat.reduceEqDiff, if_true, if_false, Bool.false_eq_true, reduceIte, List.nodup_nil, List.nodup_cons, List.not_mem_nil, not_false_eq_true, and_true, true_and, List.mem_cons, or_false, or_self, forall_eq, forall_eq_or_imp,  Nat.le_add_left, Nat.zero_le, q_add, q_sub, q_neg, q_no, q_eq, q_ne, q_lt, q_le, q_gt, q_ge, q_toInt, q_abs, q_max2, q_lenL, q_lenS, q_lenT, q_ixL, q_ixT, q_ixS, q_isi_ii, q_isi_bi, q_isi_ib, q_isi_bb, q_isi_tt, q_isi_ll, q_isi_lt, q_isi_tl, q_isN_n, q_isN_t, q_isN_i, q_notN_n, q_notN_t, q_notN_i, q_eqS, q_neS, q_all, q_any, q_sum, q_tuple, q_listT, q_listL, q_idI, q_gcd, q_min2, q_isB, q_notB, Bool.not_true, Bool.not_false, Bool.not_not, at1_0, ixN1_0, at2_0, ixN2_0, at2_1, ixN2_1, at3_0, ixN3_0, at3_1, ixN3_1, at3_2, ixN3_2, at4_0, ixN4_0, at4_1, ixN4_1, at4_2, ixN4_2, at4_3, ixN4_3, at5_0, ixN5_0, at5_1, ixN5_1, at5_2, ixN5_2, at5_3, ixN5_3, at5_4, ixN5_4, at6_0, ixN6_0, at6_1, ixN6_1, at6_2, ixN6_2, at6_3, ixN6_3, at6_4, ixN6_4, at6_5, ixN6_5, ln0, ln1, ln2, ln3, ln4, ln5, ln6, ln7, ln8, ln9, ln10, ln11, ln12, ln13, ln14, ln15, ln16, ln17, ln18, ln19, ln20, ln21, ln22, ln23, ln24, nc0, nc1, nc2, nc3, nc4, nc5, nc6, nc7, nc8, nc9, nc10, nc11, nc12, nc13, nc14, nc15, nc16, false_imp_iff, implies_true, beq_self_eq_true, Int.reduceBEq, Int.reduceLT, Int.reduceLE, decide_true, decide_false, List.all_cons, List.all_nil, List.any_cons, List.any_nil, id_eq, Bool.and_true, Bool.true_and, Bool.and_false, Bool.false_and, Bool.or_true, Bool.true_or, Bool.or_false, Bool.false_or, g7, g8, h1, h2]
def md (l r : Int × Int) : Int × Int := (l.1 + r.1, l.2 + r.2)
theorem pt_left (l r p : Int × Int) : pt l (md l r) (p.1 - p.2, p.2) = pt l r p := by
  refine Prod.ext ?_ ?_
  · show (p.1 - p.2) * l.1 + p.2 * (l.1 + r.1) = p.1 * l.1 + p.2 * r.1; grind
  · show (p.1 - p.2) * l.2 + p.2 * (l.2 + r.2) = p.1 * l.2 + p.2 * r.2; grind
theorem pt_right (l r p : Int × Int) : pt (md l r) r (p.1, p.2 - p.1) = pt l r p := by
  refine Prod.ext ?_ ?_
  · show p.1 * (l.1 + r.1) + (p.2 - p.1) * r.1 = p.1 * l.1 + p.2 * r.1; grind
  · show p.1 * (l.2 + r.2) + (p.2 - p.1) * r.2 = p.1 * l.2 + p.2 * r.2; grind
theorem gcd_sub1 (a b : Int) : Int.gcd (a - b) b = Int.gcd a b := by
  have := Int.gcd_add_mul_right_left b a (-1)
  rw [show a + -1 * b = a - b by omega] at this
  exact this
theorem loopY (k : Nat) {P DR : List D} {l r : Int × Int} {K : Int} (h : Nb l r K) (hK : 2 * K < 2 ^ 60) {s2 s6 s9 s10 s11 : Sl} : ∀ (qs : List (Int × Int)), (∀ q ∈ qs, Pr l r q) → ∀ {s7 s8 : Sl}, frS (some s7) = true → frS (some s8) = true →
    ∃ t7 t8, forL (turnF (callAt tb (k + 6)) Fuel (.tp [(.nm 8), (.nm 7)]) RL2) (qs.map (dD l r)) [.own P 1, .own DR 2, s2, .d (rD (md l r)), .d (rD l), .d (rD r), s6, s7, s8, s9, s10, s11] = some (.nx [.own P 1, .own DR 2, s2, .d (rD (md l r)), .d (rD l), .d (rD r), s6, t7, t8, s9, s10, s11])
  | [], _, s7, s8, g7, g8 => ⟨s7, s8, rfl⟩
  | q :: qs, hq, s7, s8, g7, g8 => by
    obtain ⟨x0, y0, x1, y1, o2, g⟩ := hq q (List.mem_cons_self ..)
    have T := turnY (C := callAt tb (k + 6)) (P := P) (DR := DR) (L := rD l) (R := rD r) (M := rD (md l r)) (O := rD (pt l r q)) (x := q.1) (y := q.2) (s2 := s2) (s6 := s6) (s9 := s9) (s10 := s10) (s11 := s11) g7 g8 rfl rfl
      (fun z => by
        have z := of_decide_eq_true z
        have pr : Pr l (md l r) (q.1 - q.2, q.2) := ⟨by show 0 ≤ q.1 - q.2; omega, y0, by show q.1 - q.2 < _; omega, y1, by rw [pt_left]; exact o2, by show Int.gcd (q.1 - q.2) q.2 = 1; rw [gcd_sub1]; exact g⟩
        have := f5 k h.right hK pr
        rw [show ((l.1 + r.1, l.2 + r.2) : Int × Int) = md l r from rfl, pt_left] at this
        exact this)
      (fun z => by
        have z := of_decide_eq_true z
        have pr : Pr (md l r) r (q.1, q.2 - q.1) := ⟨x0, by show 0 ≤ q.2 - q.1; omega, x1, by show q.2 - q.1 < _; omega, by rw [pt_right]; exact o2, by show Int.gcd q.1 (q.2 - q.1) = 1; rw [Int.gcd_comm, gcd_sub1, Int.gcd_comm]; exact g⟩
        have := f5 k h.left hK pr
        rw [show ((l.1 + r.1, l.2 + r.2) : Int × Int) = md l r from rfl, pt_right] at this
        exact this)
    obtain ⟨t7, t8, e⟩ := loopY k (P := P) (DR := DR) h hK (s2 := s2) (s6 := s6) (s9 := s9) (s10 := s10) (s11 := s11) qs (fun z hz => hq z (List.mem_cons_of_mem _ hz)) (s7 := .d (rD q)) (s8 := .d (rD (pt l r q))) (fr_d _) (fr_d _)
    exact ⟨t7, t8, (for_cons T).trans e⟩
/-! ### right -/
theorem run13 {k : Nat} {P P1 P2 P3 P4 : List D} {DR RS : List D} {L R M : D} {w n : Int} {t2 t6 t7 t8 u8 u9 u10 u11 v7 v8 : Sl} (e8 : callAt tb k 8 [.own P 1, .own [.int 3, .int 12, .int 40] 0] = some (.d (.int w), [.own P1 1, .own [.int 3, .int 12, .int 40] 0])) (e7 : callAt tb k 7 [.own P1 1, .d (.int w)] = some (.d (.int n), [.own P2 1, .d (.int w)])) (e11 : callAt tb k 11 [.own P2 1, .d (.int n)] = some (.d (.tup [L, R]), [.own P3 1, .d (.int n)]))
    (wr : wkL .range [.int 6] = some RS) (lp0 : forL (turnF (callAt tb k) Fuel (.nm 2) RL0) RS [.own P3 1, .own [] 0, .un, .un, .d L, .d R, .un, .un, .un, .un, .un, .un] = some (.nx [.own P4 1, .own DR 0, t2, .un, .d L, .d R, t6, t7, t8, .un, .un, .un]))
    (ws : wkL .seq [.lst DR] = some DR) (lp1 : forL (turnF (callAt tb k) Fuel (.tp [(.nm 8), (.nm 9)]) RL1) DR [.own P4 1, .own DR 2, t2, .un, .d L, .d R, t6, t7, t8, .un, .un, .un] = some (.nx [.own P4 1, .own DR 2, t2, .un, .d L, .d R, t6, t7, u8, u9, u10, u11]))
    (e12 : callAt tb k 12 [.d L, .d R, .d (.int 1), .d (.int 1)] = some (.d M, [.d L, .d R, .d (.int 1), .d (.int 1)])) (e5 : callAt tb k 5 [.d L, .d R, .d M] = some (.d (.tup [.int 1, .int 1]), [.d L, .d R, .d M])) (e5' : callAt tb k 5 [.d L, .d R, .d L] = some (.d (.tup [.int 1, .int 0]), [.d L, .d R, .d L]))
    (lp2 : forL (turnF (callAt tb k) Fuel (.tp [(.nm 8), (.nm 7)]) RL2) DR [.own P4 1, .own DR 2, t2, .d M, .d L, .d R, t6, t7, u8, u9, u10, u11] = some (.nx [.own P4 1, .own DR 2, t2, .d M, .d L, .d R, t6, v7, v8, u9, u10, u11])) :
    callAt tb (k + 1) 13 [.own P 1] = some (.d (.bl true), [.own P4 1]) := by
  have n1 : opF .ne [.tup [.int 1, .int 1], .tup [.int 1, .int 1]] = some (.d (.bl false)) := rfl
  have n2 : opF .ne [.tup [.int 1, .int 0], .tup [.int 1, .int 0]] = some (.d (.bl false)) := rfl
  refine call_ret (env0 := [.own P 1, .un, .un, .un, .un, .un, .un, .un, .un, .un, .un, .un]) h13 rfl rfl rfl (env := [.own P4 1, .own DR 0, t2, .d M, .d L, .d R, t6, v7, v8, u9, u10, u11]) ?_
  rw [R_body]
  unfold R0
  refine (xs_step (by simp only [v_var, v_lit, v_op, v_tup, v_lst, v_and, v_or, v_ite, v_chain, v_call, v_comp, v_mut, v_met, vs_nil, vs_cons, x_asg, x_asgT, x_set, x_unp, x_par, x_aug, x_if, x_ifl, frzE_nil, frzE_cons, frzSl_un, frzSl_d, frzSl_own, x_whl, x_for, x_ret, x_retN, x_expr, x_brk, x_cont, x_pass, xs_nil, xs_cons, lockA, unlockA, evCond, rdAs, rdA, boolA, bd, frz, frzs, frzR, slA, slAs, refs, postA, keepA, keepAs, g_nm', g_tp', g_sb', gs_nil', gs_cons', isOwn, isSet, isLs, setAt, putN_eq, fr_d, fr_un, fr_own0, slT, asD, retT, n_nm, n_tp, n_tl, ns_nil, ns_cons, augF, augI, items, mutKeeps, mutF, pick, List.filterMap_cons, List.filterMap_nil, List.getElem?_cons_zero, List.getElem?_cons_succ, List.getElem?_nil, List.length_cons, List.length_nil, List.cons_append, List.nil_append, List.replicate, List.map_cons, List.map_nil, List.set_cons_zero, List.set_cons_succ, List.take_succ_cons, List.take_zero, Option.map_some, Nat.le_refl, Nat.zero_add, Nat.reduceAdd, Nat.reduceSub, Nat.reduceLeDiff, Nat.reduceEqDiff, if_true, if_false, Bool.false_eq_true, reduceIte, List.nodup_nil, List.nodup_cons, List.not_mem_nil, not_false_eq_true, and_true, true_and, List.mem_cons, or_false, or_self, forall_eq, forall_eq_or_imp,  Nat.le_add_left, Nat.zero_le, q_add, q_sub, q_neg, q_no, q_eq, q_ne, q_lt, q_le, q_gt, q_ge, q_toInt, q_abs, q_max2, q_lenL, q_lenS, q_lenT, q_ixL, q_ixT, q_ixS, q_isi_ii, q_isi_bi, q_isi_ib, q_isi_bb, q_isi_tt, q_isi_ll, q_isi_lt, q_isi_tl, q_isN_n, q_isN_t, q_isN_i, q_notN_n, q_notN_t, q_notN_i, q_eqS, q_neS, q_all, q_any, q_sum, q_tuple, q_listT, q_listL, q_idI, q_gcd, q_min2, q_isB, q_notB, Bool.not_true, Bool.not_false, Bool.not_not, at1_0, ixN1_0, at2_0, ixN2_0, at2_1, ixN2_1, at3_0, ixN3_0, at3_1, ixN3_1, at3_2, ixN3_2, at4_0, ixN4_0, at4_1, ixN4_1, at4_2, ixN4_2, at4_3, ixN4_3, at5_0, ixN5_0, at5_1, ixN5_1, at5_2, ixN5_2, at5_3, ixN5_3, at5_4, ixN5_4, at6_0, ixN6_0, at6_1, ixN6_1, at6_2, ixN6_2, at6_3, ixN6_3, at6_4, ixN6_4, at6_5, ixN6_5, ln0, ln1, ln2, ln3, ln4, ln5, ln6, ln7, ln8, ln9, ln10, ln11, ln12, ln13, ln14, ln15, ln16, ln17, ln18, ln19, ln20, ln21, ln22, ln23, ln24, nc0, nc1, nc2, nc3, nc4, nc5, nc6, nc7, nc8, nc9, nc10, nc11, nc12, nc13, nc14, nc15, nc16, false_imp_iff, implies_true, beq_self_eq_true, Int.reduceBEq, Int.reduceLT, Int.reduceLE, decide_true, decide_false, List.all_cons, List.all_nil, List.any_cons, List.any_nil, id_eq, Bool.and_true, Bool.true_and, Bool.and_false, Bool.false_and, Bool.or_true, Bool.true_or, Bool.or_false, Bool.false_or, e8, e7, e11]; with_reducible rfl)).trans ?_
  unfold R1
  refine (xs_step (by simp only [v_var, v_lit, v_op, v_tup, v_lst, v_and, v_or, v_ite, v_chain, v_call, v_comp, v_mut, v_met, vs_nil, vs_cons, x_asg, x_asgT, x_set, x_unp, x_par, x_aug, x_if, x_ifl, frzE_nil, frzE_cons, frzSl_un, frzSl_d, frzSl_own, x_whl, x_for, x_ret, x_retN, x_expr, x_brk, x_cont, x_pass, xs_nil, xs_cons, lockA, unlockA, evCond, rdAs, rdA, boolA, bd, frz, frzs, frzR, slA, slAs, refs, postA, keepA, keepAs, g_nm', g_tp', g_sb', gs_nil', gs_cons', isOwn, isSet, isLs, setAt, putN_eq, fr_d, fr_un, fr_own0, slT, asD, retT, n_nm, n_tp, n_tl, ns_nil, ns_cons, augF, augI, items, mutKeeps, mutF, pick, List.filterMap_cons, List.filterMap_nil, List.getElem?_cons_zero, List.getElem?_cons_succ, List.getElem?_nil, List.length_cons, List.length_nil, List.cons_append, List.nil_append, List.replicate, List.map_cons, List.map_nil, List.set_cons_zero, List.set_cons_succ, List.take_succ_cons, List.take_zero, Option.map_some, Nat.le_refl, Nat.zero_add, Nat.reduceAdd, Nat.reduceSub, Nat.reduceLeDiff, Nat.reduceEqDiff, if_true, if_false, Bool.false_eq_true, reduceIte, List.nodup_nil, List.nodup_cons, List.not_mem_nil, not_false_eq_true, and_true, true_and, List.mem_cons, or_false, or_self, forall_eq, forall_eq_or_imp,  Nat.le_add_left, Nat.zero_le, q_add, q_sub, q_neg, q_no, q_eq, q_ne, q_lt, q_le, q_gt, q_ge, q_toInt, q_abs, q_max2, q_lenL, q_lenS, q_lenT, q_ixL, q_ixT, q_ixS, q_isi_ii, q_isi_bi, q_isi_ib, q_isi_bb, q_isi_tt, q_isi_ll, q_isi_lt, q_isi_tl, q_isN_n, q_isN_t, q_isN_i, q_notN_n, q_notN_t, q_notN_i, q_eqS, q_neS, q_all, q_any, q_sum, q_tuple, q_listT, q_listL, q_idI, q_gcd, q_min2, q_isB, q_notB, Bool.not_true, Bool.not_false, Bool.not_not, at1_0, ixN1_0, at2_0, ixN2_0, at2_1, ixN2_1, at3_0, ixN3_0, at3_1, ixN3_1, at3_2, ixN3_2, at4_0, ixN4_0, at4_1, ixN4_1, at4_2, ixN4_2, at4_3, ixN4_3, at5_0, ixN5_0, at5_1, ixN5_1, at5_2, ixN5_2, at5_3, ixN5_3, at5_4, ixN5_4, at6_0, ixN6_0, at6_1, ixN6_1, at6_2, ixN6_2, at6_3, ixN6_3, at6_4, ixN6_4, at6_5, ixN6_5, ln0, ln1, ln2, ln3, ln4, ln5, ln6, ln7, ln8, ln9, ln10, ln11, ln12, ln13, ln14, ln15, ln16, ln17, ln18, ln19, ln20, ln21, ln22, ln23, ln24, nc0, nc1, nc2, nc3, nc4, nc5, nc6, nc7, nc8, nc9, nc10, nc11, nc12, nc13, nc14, nc15, nc16, false_imp_iff, implies_true, beq_self_eq_true, Int.reduceBEq, Int.reduceLT, Int.reduceLE, decide_true, decide_false, List.all_cons, List.all_nil, List.any_cons, List.any_nil, id_eq, Bool.and_true, Bool.true_and, Bool.and_false, Bool.false_and, Bool.or_true, Bool.true_or, Bool.or_false, Bool.false_or]; with_reducible rfl)).trans ?_
  unfold R2
  refine (xs_step (by simp only [v_var, v_lit, v_op, v_tup, v_lst, v_and, v_or, v_ite, v_chain, v_call, v_comp, v_mut, v_met, vs_nil, vs_cons, x_asg, x_asgT, x_set, x_unp, x_par, x_aug, x_if, x_ifl, frzE_nil, frzE_cons, frzSl_un, frzSl_d, frzSl_own, x_whl, x_for, x_ret, x_retN, x_expr, x_brk, x_cont, x_pass, xs_nil, xs_cons, lockA, unlockA, evCond, rdAs, rdA, boolA, bd, frz, frzs, frzR, slA, slAs, refs, postA, keepA, keepAs, g_nm', g_tp', g_sb', gs_nil', gs_cons', isOwn, isSet, isLs, setAt, putN_eq, fr_d, fr_un, fr_own0, slT, asD, retT, n_nm, n_tp, n_tl, ns_nil, ns_cons, augF, augI, items, mutKeeps, mutF, pick, List.filterMap_cons, List.filterMap_nil, List.getElem?_cons_zero, List.getElem?_cons_succ, List.getElem?_nil, List.length_cons, List.length_nil, List.cons_append, List.nil_append, List.replicate, List.map_cons, List.map_nil, List.set_cons_zero, List.set_cons_succ, List.take_succ_cons, List.take_zero, Option.map_some, Nat.le_refl, Nat.zero_add, Nat.reduceAdd, Nat.reduceSub, Nat.reduceLeDiff, Nat.reduceEqDiff, if_true, if_false, Bool.false_eq_true, reduceIte, List.nodup_nil, List.nodup_cons, List.not_mem_nil, not_false_eq_true, and_true, true_and, List.mem_cons, or_false, or_self, forall_eq, forall_eq_or_imp,  Nat.le_add_left, Nat.zero_le, q_add, q_sub, q_neg, q_no, q_eq, q_ne, q_lt, q_le, q_gt, q_ge, q_toInt, q_abs, q_max2, q_lenL, q_lenS, q_lenT, q_ixL, q_ixT, q_ixS, q_isi_ii, q_isi_bi, q_isi_ib, q_isi_bb, q_isi_tt, q_isi_ll, q_isi_lt, q_isi_tl, q_isN_n, q_isN_t, q_isN_i, q_notN_n, q_notN_t, q_notN_i, q_eqS, q_neS, q_all, q_any, q_sum, q_tuple, q_listT, q_listL, q_idI, q_gcd, q_min2, q_isB, q_notB, Bool.not_true, Bool.not_false, Bool.not_not, at1_0, ixN1_0, at2_0, ixN2_0, at2_1, ixN2_1, at3_0, ixN3_0, at3_1, ixN3_1, at3_2, ixN3_2, at4_0, ixN4_0, at4_1, ixN4_1, at4_2, ixN4_2, at4_3, ixN4_3, at5_0, ixN5_0, at5_1, ixN5_1, at5_2, ixN5_2, at5_3, ixN5_3, at5_4, ixN5_4, at6_0, ixN6_0, at6_1, ixN6_1, at6_2, ixN6_2, at6_3, ixN6_3, at6_4, ixN6_4, at6_5, ixN6_5, ln0, ln1, ln2, ln3, ln4, ln5, ln6, ln7, ln8, ln9, ln10, ln11, ln12, ln13, ln14, ln15, ln16, ln17, ln18, ln19, ln20, ln21, ln22, ln23, ln24, nc0, nc1, nc2, nc3, nc4, nc5, nc6, nc7, nc8, nc9, nc10, nc11, nc12, nc13, nc14, nc15, nc16, false_imp_iff, implies_true, beq_self_eq_true, Int.reduceBEq, Int.reduceLT, Int.reduceLE, decide_true, decide_false, List.all_cons, List.all_nil, List.any_cons, List.any_nil, id_eq, Bool.and_true, Bool.true_and, Bool.and_false, Bool.false_and, Bool.or_true, Bool.true_or, Bool.or_false, Bool.false_or, wr, lp0]; with_reducible rfl)).trans ?_
  unfold R3
  refine (xs_step (by simp only [v_var, v_lit, v_op, v_tup, v_lst, v_and, v_or, v_ite, v_chain, v_call, v_comp, v_mut, v_met, vs_nil, vs_cons, x_asg, x_asgT, x_set, x_unp, x_par, x_aug, x_if, x_ifl, frzE_nil, frzE_cons, frzSl_un, frzSl_d, frzSl_own, x_whl, x_for, x_ret, x_retN, x_expr, x_brk, x_cont, x_pass, xs_nil, xs_cons, lockA, unlockA, evCond, rdAs, rdA, boolA, bd, frz, frzs, frzR, slA, slAs, refs, postA, keepA, keepAs, g_nm', g_tp', g_sb', gs_nil', gs_cons', isOwn, isSet, isLs, setAt, putN_eq, fr_d, fr_un, fr_own0, slT, asD, retT, n_nm, n_tp, n_tl, ns_nil, ns_cons, augF, augI, items, mutKeeps, mutF, pick, List.filterMap_cons, List.filterMap_nil, List.getElem?_cons_zero, List.getElem?_cons_succ, List.getElem?_nil, List.length_cons, List.length_nil, List.cons_append, List.nil_append, List.replicate, List.map_cons, List.map_nil, List.set_cons_zero, List.set_cons_succ, List.take_succ_cons, List.take_zero, Option.map_some, Nat.le_refl, Nat.zero_add, Nat.reduceAdd, Nat.reduceSub, Nat.reduceLeDiff, Nat.reduceEqDiff, if_true, if_false, Bool.false_eq_true, reduceIte, List.nodup_nil, List.nodup_cons, List.not_mem_nil, not_false_eq_true, and_true, true_and, List.mem_cons, or_false, or_self, forall_eq, forall_eq_or_imp,  Nat.le_add_left, Nat.zero_le, q_add, q_sub, q_neg, q_no, q_eq, q_ne, q_lt, q_le, q_gt, q_ge, q_toInt, q_abs, q_max2, q_lenL, q_lenS, q_lenT, q_ixL, q_ixT, q_ixS, q_isi_ii, q_isi_bi, q_isi_ib, q_isi_bb, q_isi_tt, q_isi_ll, q_isi_lt, q_isi_tl, q_isN_n, q_isN_t, q_isN_i, q_notN_n, q_notN_t, q_notN_i, q_eqS, q_neS, q_all, q_any, q_sum, q_tuple, q_listT, q_listL, q_idI, q_gcd, q_min2, q_isB, q_notB, Bool.not_true, Bool.not_false, Bool.not_not, at1_0, ixN1_0, at2_0, ixN2_0, at2_1, ixN2_1, at3_0, ixN3_0, at3_1, ixN3_1, at3_2, ixN3_2, at4_0, ixN4_0, at4_1, ixN4_1, at4_2, ixN4_2, at4_3, ixN4_3, at5_0, ixN5_0, at5_1, ixN5_1, at5_2, ixN5_2, at5_3, ixN5_3, at5_4, ixN5_4, at6_0, ixN6_0, at6_1, ixN6_1, at6_2, ixN6_2, at6_3, ixN6_3, at6_4, ixN6_4, at6_5, ixN6_5, ln0, ln1, ln2, ln3, ln4, ln5, ln6, ln7, ln8, ln9, ln10, ln11, ln12, ln13, ln14, ln15, ln16, ln17, ln18, ln19, ln20, ln21, ln22, ln23, ln24, nc0, nc1, nc2, nc3, nc4, nc5, nc6, nc7, nc8, nc9, nc10, nc11, nc12, nc13, nc14, nc15, nc16, false_imp_iff, implies_true, beq_self_eq_true, Int.reduceBEq, Int.reduceLT, Int.reduceLE, decide_true, decide_false, List.all_cons, List.all_nil, List.any_cons, List.any_nil, id_eq, Bool.and_true, Bool.true_and, Bool.and_false, Bool.false_and, Bool.or_true, Bool.true_or, Bool.or_false, Bool.false_or, ws, lp1]; with_reducible rfl)).trans ?_
  unfold R4
  refine (xs_step (by simp only [v_var, v_lit, v_op, v_tup, v_lst, v_and, v_or, v_ite, v_chain, v_call, v_comp, v_mut, v_met, vs_nil, vs_cons, x_asg, x_asgT, x_set, x_unp, x_par, x_aug, x_if, x_ifl, frzE_nil, frzE_cons, frzSl_un, frzSl_d, frzSl_own, x_whl, x_for, x_ret, x_retN, x_expr, x_brk, x_cont, x_pass, xs_nil, xs_cons, lockA, unlockA, evCond, rdAs, rdA, boolA, bd, frz, frzs, frzR, slA, slAs, refs, postA, keepA, keepAs, g_nm', g_tp', g_sb', gs_nil', gs_cons', isOwn, isSet, isLs, setAt, putN_eq, fr_d, fr_un, fr_own0, slT, asD, retT, n_nm, n_tp, n_tl, ns_nil, ns_cons, augF, augI, items, mutKeeps, mutF, pick, List.filterMap_cons, List.filterMap_nil, List.getElem?_cons_zero, List.getElem?_cons_succ, List.getElem?_nil, List.length_cons, List.length_nil, List.cons_append, List.nil_append, List.replicate, List.map_cons, List.map_nil, List.set_cons_zero, List.set_cons_succ, List.take_succ_cons, List.take_zero, Option.map_some, Nat.le_refl, Nat.zero_add, Nat.reduceAdd, Nat.reduceSub, Nat.reduceLeDiff, Nat.reduceEqDiff, if_true, if_false, Bool.false_eq_true, reduceIte, List.nodup_nil, List.nodup_cons, List.not_mem_nil, not_false_eq_true, and_true, true_and, List.mem_cons, or_false, or_self, forall_eq, forall_eq_or_imp,  Nat.le_add_left, Nat.zero_le, q_add, q_sub, q_neg, q_no, q_eq, q_ne, q_lt, q_le, q_gt, q_ge, q_toInt, q_abs, q_max2, q_lenL, q_lenS, q_lenT, q_ixL, q_ixT, q_ixS, q_isi_ii, q_isi_bi, q_isi_ib, q_isi_bb, q_isi_tt, q_isi_ll, q_isi_lt, q_isi_tl, q_isN_n, q_isN_t, q_isN_i, q_notN_n, q_notN_t, q_notN_i, q_eqS, q_neS, q_all, q_any, q_sum, q_tuple, q_listT, q_listL, q_idI, q_gcd, q_min2, q_isB, q_notB, Bool.not_true, Bool.not_false, Bool.not_not, at1_0, ixN1_0, at2_0, ixN2_0, at2_1, ixN2_1, at3_0, ixN3_0, at3_1, ixN3_1, at3_2, ixN3_2, at4_0, ixN4_0, at4_1, ixN4_1, at4_2, ixN4_2, at4_3, ixN4_3, at5_0, ixN5_0, at5_1, ixN5_1, at5_2, ixN5_2, at5_3, ixN5_3, at5_4, ixN5_4, at6_0, ixN6_0, at6_1, ixN6_1, at6_2, ixN6_2, at6_3, ixN6_3, at6_4, ixN6_4, at6_5, ixN6_5, ln0, ln1, ln2, ln3, ln4, ln5, ln6, ln7, ln8, ln9, ln10, ln11, ln12, ln13, ln14, ln15, ln16, ln17, ln18, ln19, ln20, ln21, ln22, ln23, ln24, nc0, nc1, nc2, nc3, nc4, nc5, nc6, nc7, nc8, nc9, nc10, nc11, nc12, nc13, nc14, nc15, nc16, false_imp_iff, implies_true, beq_self_eq_true, Int.reduceBEq, Int.reduceLT, Int.reduceLE, decide_true, decide_false, List.all_cons, List.all_nil, List.any_cons, List.any_nil, id_eq, Bool.and_true, Bool.true_and, Bool.and_false, Bool.false_and, Bool.or_true, Bool.true_or, Bool.or_false, Bool.false_or, e12]; with_reducible rfl)).trans ?_
  unfold R5
  refine (xs_step (by simp only [v_var, v_lit, v_op, v_tup, v_lst, v_and, v_or, v_ite, v_chain, v_call, v_comp, v_mut, v_met, vs_nil, vs_cons, x_asg, x_asgT, x_set, x_unp, x_par, x_aug, x_if, x_ifl, frzE_nil, frzE_cons, frzSl_un, frzSl_d, frzSl_own, x_whl, x_for, x_ret, x_retN, x_expr, x_brk, x_cont, x_pass, xs_nil, xs_cons, lockA, unlockA, evCond, rdAs, rdA, boolA, bd, frz, frzs, frzR, slA, slAs, refs, postA, keepA, keepAs, g_nm', g_tp', g_sb', gs_nil', gs_cons', isOwn, isSet, isLs, setAt, putN_eq, fr_d, fr_un, fr_own0, slT, asD, retT, n_nm, n_tp, n_tl, ns_nil, ns_cons, augF, augI, items, mutKeeps, mutF, pick, List.filterMap_cons, List.filterMap_nil, List.getElem?_cons_zero, List.getElem?_cons_succ, List.getElem?_nil, List.length_cons, List.length_nil, List.cons_append, List.nil_append, List.replicate, List.map_cons, List.map_nil, List.set_cons_zero, List.set_cons_succ, List.take_succ_cons, List.take_zero, Option.map_some, Nat.le_refl, Nat.zero_add, Nat.reduceAdd, Nat.reduceSub, Nat.reduceLeDiff, Nat.reduceEqDiff, if_true, if_false, Bool.false_eq_true, reduceIte, List.nodup_nil, List.nodup_cons, List.not_mem_nil, not_false_eq_true, and_true, true_and, List.mem_cons, or_false, or_self, forall_eq, forall_eq_or_imp,  Nat.le_add_left, Nat.zero_le, q_add, q_sub, q_neg, q_no, q_eq, q_ne, q_lt, q_le, q_gt, q_ge, q_toInt, q_abs, q_max2, q_lenL, q_lenS, q_lenT, q_ixL, q_ixT, q_ixS, q_isi_ii, q_isi_bi, q_isi_ib, q_isi_bb, q_isi_tt, q_isi_ll, q_isi_lt, q_isi_tl, q_isN_n, q_isN_t, q_isN_i, q_notN_n, q_notN_t, q_notN_i, q_eqS, q_neS, q_all, q_any, q_sum, q_tuple, q_listT, q_listL, q_idI, q_gcd, q_min2, q_isB, q_notB, Bool.not_true, Bool.not_false, Bool.not_not, at1_0, ixN1_0, at2_0, ixN2_0, at2_1, ixN2_1, at3_0, ixN3_0, at3_1, ixN3_1, at3_2, ixN3_2, at4_0, ixN4_0, at4_1, ixN4_1, at4_2, ixN4_2, at4_3, ixN4_3, at5_0, ixN5_0, at5_1, ixN5_1, at5_2, ixN5_2, at5_3, ixN5_3, at5_4, ixN5_4, at6_0, ixN6_0, at6_1, ixN6_1, at6_2, ixN6_2, at6_3, ixN6_3, at6_4, ixN6_4, at6_5, ixN6_5, ln0, ln1, ln2, ln3, ln4, ln5, ln6, ln7, ln8, ln9, ln10, ln11, ln12, ln13, ln14, ln15, ln16, ln17, ln18, ln19, ln20, ln21, ln22, ln23, ln24, nc0, nc1, nc2, nc3, nc4, nc5, nc6, nc7, nc8, nc9, nc10, nc11, nc12, nc13, nc14, nc15, nc16, false_imp_iff, implies_true, beq_self_eq_true, Int.reduceBEq, Int.reduceLT, Int.reduceLE, decide_true, decide_false, List.all_cons, List.all_nil, List.any_cons, List.any_nil, id_eq, Bool.and_true, Bool.true_and, Bool.and_false, Bool.false_and, Bool.or_true, Bool.true_or, Bool.or_false, Bool.false_or, e5, n1, e5', n2]; with_reducible rfl)).trans ?_
  unfold R6
  refine (xs_step (by simp only [v_var, v_lit, v_op, v_tup, v_lst, v_and, v_or, v_ite, v_chain, v_call, v_comp, v_mut, v_met, vs_nil, vs_cons, x_asg, x_asgT, x_set, x_unp, x_par, x_aug, x_if, x_ifl, frzE_nil, frzE_cons, frzSl_un, frzSl_d, frzSl_own, x_whl, x_for, x_ret, x_retN, x_expr, x_brk, x_cont, x_pass, xs_nil, xs_cons, lockA, unlockA, evCond, rdAs, rdA, boolA, bd, frz, frzs, frzR, slA, slAs, refs, postA, keepA, keepAs, g_nm', g_tp', g_sb', gs_nil', gs_cons', isOwn, isSet, isLs, setAt, putN_eq, fr_d, fr_un, fr_own0, slT, asD, retT, n_nm, n_tp, n_tl, ns_nil, ns_cons, augF, augI, items, mutKeeps, mutF, pick, List.filterMap_cons, List.filterMap_nil, List.getElem?_cons_zero, List.getElem?_cons_succ, List.getElem?_nil, List.length_cons, List.length_nil, List.cons_append, List.nil_append, List.replicate, List.map_cons, List.map_nil, List.set_cons_zero, List.set_cons_succ, List.take_succ_cons, List.take_zero, Option.map_some, Nat.le_refl, Nat.zero_add, Nat.reduceAdd, Nat.reduceSub, Nat.reduceLeDiff, Nat.reduceEqDiff, if_true, if_false, Bool.false_eq_true, reduceIte, List.nodup_nil, List.nodup_cons, List.not_mem_nil, not_false_eq_true, and_true, true_and, List.mem_cons, or_false, or_self, forall_eq, forall_eq_or_imp,  Nat.le_add_left, Nat.zero_le, q_add, q_sub, q_neg, q_no, q_eq, q_ne, q_lt, q_le, q_gt, q_ge, q_toInt, q_abs, q_max2, q_lenL, q_lenS, q_lenT, q_ixL, q_ixT, q_ixS, q_isi_ii, q_isi_bi, q_isi_ib, q_isi_bb, q_isi_tt, q_isi_ll, q_isi_lt, q_isi_tl, q_isN_n, q_isN_t, q_isN_i, q_notN_n, q_notN_t, q_notN_i, q_eqS, q_neS, q_all, q_any, q_sum, q_tuple, q_listT, q_listL, q_idI, q_gcd, q_min2, q_isB, q_notB, Bool.not_true, Bool.not_false, Bool.not_not, at1_0, ixN1_0, at2_0, ixN2_0, at2_1, ixN2_1, at3_0, ixN3_0, at3_1, ixN3_1, at3_2, ixN3_2, at4_0, ixN4_0, at4_1, ixN4_1, at4_2, ixN4_2, at4_3, ixN4_3, at5_0, ixN5_0, at5_1, ixN5_1, at5_2, ixN5_2, at5_3, ixN5_3, at5_4, ixN5_4, at6_0, ixN6_0, at6_1, ixN6_1, at6_2, ixN6_2, at6_3, ixN6_3, at6_4, ixN6_4, at6_5, ixN6_5, ln0, ln1, ln2, ln3, ln4, ln5, ln6, ln7, ln8, ln9, ln10, ln11, ln12, ln13, ln14, ln15, ln16, ln17, ln18, ln19, ln20, ln21, ln22, ln23, ln24, nc0, nc1, nc2, nc3, nc4, nc5, nc6, nc7, nc8, nc9, nc10, nc11, nc12, nc13, nc14, nc15, nc16, false_imp_iff, implies_true, beq_self_eq_true, Int.reduceBEq, Int.reduceLT, Int.reduceLE, decide_true, decide_false, List.all_cons, List.all_nil, List.any_cons, List.any_nil, id_eq, Bool.and_true, Bool.true_and, Bool.and_false, Bool.false_and, Bool.or_true, Bool.true_or, Bool.or_false, Bool.false_or, ws, lp2]; with_reducible rfl)).trans ?_
  unfold R7
  exact xs_ret (by simp only [v_var, v_lit, v_op, v_tup, v_lst, v_and, v_or, v_ite, v_chain, v_call, v_comp, v_mut, v_met, vs_nil, vs_cons, x_asg, x_asgT, x_set, x_unp, x_par, x_aug, x_if, x_ifl, frzE_nil, frzE_cons, frzSl_un, frzSl_d, frzSl_own, x_whl, x_for, x_ret, x_retN, x_expr, x_brk, x_cont, x_pass, xs_nil, xs_cons, lockA, unlockA, evCond, rdAs, rdA, boolA, bd, frz, frzs, frzR, slA, slAs, refs, postA, keepA, keepAs, g_nm', g_tp', g_sb', gs_nil', gs_cons', isOwn, isSet, isLs, setAt, putN_eq, fr_d, fr_un, fr_own0, slT, asD, retT, n_nm, n_tp, n_tl, ns_nil, ns_cons, augF, augI, items, mutKeeps, mutF, pick, List.filterMap_cons, List.filterMap_nil, List.getElem?_cons_zero, List.getElem?_cons_succ, List.getElem?_nil, List.length_cons, List.length_nil, List.cons_append, List.nil_append, List.replicate, List.map_cons, List.map_nil, List.set_cons_zero, List.set_cons_succ, List.take_succ_cons, List.take_zero, Option.map_some, Nat.le_refl, Nat.zero_add, Nat.reduceAdd, Nat.reduceSub, Nat.reduceLeDiff, Nat.reduceEqDiff, if_true, if_false, Bool.false_eq_true, reduceIte, List.nodup_nil, List.nodup_cons, List.not_mem_nil, not_false_eq_true, and_true, true_and, List.mem_cons, or_false, or_self, forall_eq, forall_eq_or_imp,  Nat.le_add_left, Nat.zero_le, q_add, q_sub, q_neg, q_no, q_eq, q_ne, q_lt, q_le, q_gt, q_ge, q_toInt, q_abs, q_max2, q_lenL, q_lenS, q_lenT, q_ixL, q_ixT, q_ixS, q_isi_ii, q_isi_bi, q_isi_ib, q_isi_bb, q_isi_tt, q_isi_ll, q_isi_lt, q_isi_tl, q_isN_n, q_isN_t, q_isN_i, q_notN_n, q_notN_t, q_notN_i, q_eqS, q_neS, q_all, q_any, q_sum, q_tuple, q_listT, q_listL, q_idI, q_gcd, q_min2, q_isB, q_notB, Bool.not_true, Bool.not_false, Bool.not_not, at1_0, ixN1_0, at2_0, ixN2_0, at2_1, ixN2_1, at3_0, ixN3_0, at3_1, ixN3_1, at3_2, ixN3_2, at4_0, ixN4_0, at4_1, ixN4_1, at4_2, ixN4_2, at4_3, ixN4_3, at5_0, ixN5_0, at5_1, ixN5_1, at5_2, ixN5_2, at5_3, ixN5_3, at5_4, ixN5_4, at6_0, ixN6_0, at6_1, ixN6_1, at6_2, ixN6_2, at6_3, ixN6_3, at6_4, ixN6_4, at6_5, ixN6_5, ln0, ln1, ln2, ln3, ln4, ln5, ln6, ln7, ln8, ln9, ln10, ln11, ln12, ln13, ln14, ln15, ln16, ln17, ln18, ln19, ln20, ln21, ln22, ln23, ln24, nc0, nc1, nc2, nc3, nc4, nc5, nc6, nc7, nc8, nc9, nc10, nc11, nc12, nc13, nc14, nc15, nc16, false_imp_iff, implies_true, beq_self_eq_true, Int.reduceBEq, Int.reduceLT, Int.reduceLE, decide_true, decide_false, List.all_cons, List.all_nil, List.any_cons, List.any_nil, id_eq, Bool.and_true, Bool.true_and, Bool.and_false, Bool.false_and, Bool.or_true, Bool.true_or, Bool.or_false, Bool.false_or])
theorem right_ok (k : Nat) {P : List D} (hP : PotOk P) : ∃ P', PotOk P' ∧ callAt tb (k + 7) 13 [.own P 1] = some (.d (.bl true), [.own P' 1]) := by
  obtain ⟨w, P1, hP1, mw, e8⟩ := pick8 (k + 4) hP (xs := [.int 3, .int 12, .int 40]) (by decide) (by decide)
  obtain ⟨v, rfl, v0, v1⟩ : ∃ v : Int, w = .int v ∧ 0 < v ∧ v ≤ 40 := by
    rcases List.mem_cons.mp mw with rfl | mx
    · exact ⟨_, rfl, by decide, by decide⟩
    · rcases List.mem_cons.mp mx with rfl | mx
      · exact ⟨_, rfl, by decide, by decide⟩
      · rcases List.mem_cons.mp mx with rfl | mx
        · exact ⟨_, rfl, by decide, by decide⟩
        · cases mx
  obtain ⟨n, P2, hP2, n0, n1, e7⟩ := draw7 (k + 5) hP1 (m := v) v0 (by omega)
  obtain ⟨P3, l, r, hP3, h, e11⟩ := f11 (k + 4) hP2 n0 (show n < 40 by omega)
  have wr : wkL .range [.int 6] = some (rangeD 0 6) := range1_ok (by decide) (by decide)
  obtain ⟨P4, ps, t2, t6, t7, t8, hP4, hps, hl, g7, g8, lp0⟩ := loop0 k h (by decide) (rangeD 0 6) hP3 (ps := []) (fun p hp => (by cases hp)) (by rw [rangeD_len]; decide) (s2 := .un) (s3 := .un) (s6 := .un) (s7 := .un) (s8 := .un) (s9 := .un) (s10 := .un) (s11 := .un) fr_un fr_un fr_un fr_un
  obtain ⟨u8, u9, u10, u11, i8, i9, lp1⟩ := loopU (k + 5) (P := P4) h (by decide) hps (s2 := t2) (s3 := .un) (s6 := t6) (s7 := t7) ps hps (s8 := t8) (s9 := .un) (s10 := .un) (s11 := .un) g8 fr_un fr_un fr_un
  obtain ⟨v7, v8, lp2⟩ := loopY k (P := P4) (DR := ps.map (dD l r)) h (by decide) (s2 := t2) (s6 := t6) (s9 := u9) (s10 := u10) (s11 := u11) ps hps (s7 := t7) (s8 := u8) g7 i8
  have em : pt l r (1, 1) = md l r := Prod.ext (show 1 * l.1 + 1 * r.1 = l.1 + r.1 by omega) (show 1 * l.2 + 1 * r.2 = l.2 + r.2 by omega)
  have el : pt l r (1, 0) = l := Prod.ext (show 1 * l.1 + 0 * r.1 = l.1 by omega) (show 1 * l.2 + 0 * r.2 = l.2 by omega)
  have b1 := h.b1
  have d0 := h.d0
  have e12 := f12 (k + 5) h (by decide) (x := 1) (y := 1) (by decide) (by decide) (by decide) (by decide)
  have e5 := f5 k h (by decide) (p := (1, 1)) ⟨by decide, by decide, by decide, by decide, by rw [em]; show 0 < l.2 + r.2; omega, by decide⟩
  have e5' := f5 k h (by decide) (p := (1, 0)) ⟨by decide, by decide, by decide, by decide, by rw [el]; omega, by decide⟩
  rw [em] at e12 e5
  rw [el] at e5'
  exact ⟨P4, hP4, run13 (k := k + 6) e8 e7 e11 wr lp0 rfl lp1 e12 e5 e5' lp2⟩
/-! ### the law -/
theorem comp14 (a0 : Sl) : ∀ (xs : List D) {P : List D} (hP : PotOk P) (u : Sl), ∃ P' u', compL (stepC (callAt tb 99) A14K0 (.nm 2) [] [2]) xs [a0, .own P 0, u] = some (xs.map fun _ => .bl true, [a0, .own P' 0, u'])
  | [], P, _, u => ⟨P, u, rfl⟩
  | x :: xs, P, hP, u => by
    obtain ⟨P1, hP1, e1⟩ := right_ok 92 hP
    obtain ⟨P2, u', e⟩ := comp14 a0 xs hP1 (.d x)
    refine ⟨P2, u', ?_⟩
    have st : stepC (callAt tb 99) A14K0 (.nm 2) [] [2] x [a0, .own P 0, u] = some (some (.bl true), [a0, .own P1 0, .d x]) := by
      unfold stepC A14K0
      simp only [wipeE, v_var, v_lit, v_op, v_tup, v_lst, v_and, v_or, v_ite, v_chain, v_call, v_comp, v_mut, v_met, vs_nil, vs_cons, x_asg, x_asgT, x_set, x_unp, x_par, x_aug, x_if, x_ifl, frzE_nil, frzE_cons, frzSl_un, frzSl_d, frzSl_own, x_whl, x_for, x_ret, x_retN, x_expr, x_brk, x_cont, x_pass, xs_nil, xs_cons, lockA, unlockA, evCond, rdAs, rdA, boolA, bd, frz, frzs, frzR, slA, slAs, refs, postA, keepA, keepAs, g_nm', g_tp', g_sb', gs_nil', gs_cons', isOwn, isSet, isLs, setAt, putN_eq, fr_d, fr_un, fr_own0, slT, asD, retT, n_nm, n_tp, n_tl, ns_nil, ns_cons, augF, augI, items, mutKeeps, mutF, pick, List.filterMap_cons, List.filterMap_nil, List.getElem?_cons_zero, List.getElem?_cons_succ, List.getElem?_nil, List.length_cons, List.length_nil, List.cons_append, List.nil_append, List.replicate, List.map_cons, List.map_nil, List.set_cons_zero, List.set_cons_succ, List.take_succ_cons, List.take_zero, Option.map_some, Nat.le_refl, Nat.zero_add, Nat.reduceAdd, Nat.reduceSub, Nat.reduceLeDiff, Nat.reduceEqDiff, if_true, if_false, Bool.false_eq_true, reduceIte, List.nodup_nil, List.nodup_cons, List.not_mem_nil, not_false_eq_true, and_true, true_and, List.mem_cons, or_false, or_self, forall_eq, forall_eq_or_imp,  Nat.le_add_left, Nat.zero_le, q_add, q_sub, q_neg, q_no, q_eq, q_ne, q_lt, q_le, q_gt, q_ge, q_toInt, q_abs, q_max2, q_lenL, q_lenS, q_lenT, q_ixL, q_ixT, q_ixS, q_isi_ii, q_isi_bi, q_isi_ib, q_isi_bb, q_isi_tt, q_isi_ll, q_isi_lt, q_isi_tl, q_isN_n, q_isN_t, q_isN_i, q_notN_n, q_notN_t, q_notN_i, q_eqS, q_neS, q_all, q_any, q_sum, q_tuple, q_listT, q_listL, q_idI, q_gcd, q_min2, q_isB, q_notB, Bool.not_true, Bool.not_false, Bool.not_not, at1_0, ixN1_0, at2_0, ixN2_0, at2_1, ixN2_1, at3_0, ixN3_0, at3_1, ixN3_1, at3_2, ixN3_2, at4_0, ixN4_0, at4_1, ixN4_1, at4_2, ixN4_2, at4_3, ixN4_3, at5_0, ixN5_0, at5_1, ixN5_1, at5_2, ixN5_2, at5_3, ixN5_3, at5_4, ixN5_4, at6_0, ixN6_0, at6_1, ixN6_1, at6_2, ixN6_2, at6_3, ixN6_3, at6_4, ixN6_4, at6_5, ixN6_5, ln0, ln1, ln2, ln3, ln4, ln5, ln6, ln7, ln8, ln9, ln10, ln11, ln12, ln13, ln14, ln15, ln16, ln17, ln18, ln19, ln20, ln21, ln22, ln23, ln24, nc0, nc1, nc2, nc3, nc4, nc5, nc6, nc7, nc8, nc9, nc10, nc11, nc12, nc13, nc14, nc15, nc16, false_imp_iff, implies_true, beq_self_eq_true, Int.reduceBEq, Int.reduceLT, Int.reduceLE, decide_true, decide_false, List.all_cons, List.all_nil, List.any_cons, List.any_nil, id_eq, Bool.and_true, Bool.true_and, Bool.and_false, Bool.false_and, Bool.or_true, Bool.true_or, Bool.or_false, Bool.false_or, e1]
    rw [compL, st]
    simp only [Option.bind_some, e]
    rfl
theorem math (ns : List Int) (h : ns.length ≤ 63) : ∃ outs, callAt tb 100 14 [.d (.scr ns)] = some (.d (.bl true), outs) := by
  obtain ⟨P, hP, e0⟩ := pot6 98 ns (j := 0) (by decide) (by decide)
  obtain ⟨P', u', c⟩ := comp14 (.d (.scr ns)) (rangeD 0 6) hP .un
  have wr6 : wkL .range [.int 6] = some (rangeD 0 6) := range1_ok (by decide) (by decide)
  have l6 : (rangeD 0 6).length ≤ line := by rw [rangeD_len]; exact lnn (by decide)
  have bt : boolsD ((rangeD 0 6).map fun _ => .bl true) = some ((rangeD 0 6).map fun _ => true) := boolsD_map _ _
  have al : ((rangeD 0 6).map fun _ => true).all id = true := by
    rw [List.all_map, List.all_eq_true]
    intro x _; rfl
  generalize ((rangeD 0 6).map fun _ => D.bl true) = BL at *
  generalize ((rangeD 0 6).map fun _ => true) = BT at *
  generalize rangeD 0 6 = RS at *
  refine ⟨[.d (.scr ns)], call_ret (env0 := [.d (.scr ns), .un, .un]) h14 rfl rfl rfl (env := [.d (.scr ns), .own P' 0, .un]) ?_⟩
  rw [A14_body]
  unfold A140
  refine (xs_step (by simp only [v_var, v_lit, v_op, v_tup, v_lst, v_and, v_or, v_ite, v_chain, v_call, v_comp, v_mut, v_met, vs_nil, vs_cons, x_asg, x_asgT, x_set, x_unp, x_par, x_aug, x_if, x_ifl, frzE_nil, frzE_cons, frzSl_un, frzSl_d, frzSl_own, x_whl, x_for, x_ret, x_retN, x_expr, x_brk, x_cont, x_pass, xs_nil, xs_cons, lockA, unlockA, evCond, rdAs, rdA, boolA, bd, frz, frzs, frzR, slA, slAs, refs, postA, keepA, keepAs, g_nm', g_tp', g_sb', gs_nil', gs_cons', isOwn, isSet, isLs, setAt, putN_eq, fr_d, fr_un, fr_own0, slT, asD, retT, n_nm, n_tp, n_tl, ns_nil, ns_cons, augF, augI, items, mutKeeps, mutF, pick, List.filterMap_cons, List.filterMap_nil, List.getElem?_cons_zero, List.getElem?_cons_succ, List.getElem?_nil, List.length_cons, List.length_nil, List.cons_append, List.nil_append, List.replicate, List.map_cons, List.map_nil, List.set_cons_zero, List.set_cons_succ, List.take_succ_cons, List.take_zero, Option.map_some, Nat.le_refl, Nat.zero_add, Nat.reduceAdd, Nat.reduceSub, Nat.reduceLeDiff, Nat.reduceEqDiff, if_true, if_false, Bool.false_eq_true, reduceIte, List.nodup_nil, List.nodup_cons, List.not_mem_nil, not_false_eq_true, and_true, true_and, List.mem_cons, or_false, or_self, forall_eq, forall_eq_or_imp,  Nat.le_add_left, Nat.zero_le, q_add, q_sub, q_neg, q_no, q_eq, q_ne, q_lt, q_le, q_gt, q_ge, q_toInt, q_abs, q_max2, q_lenL, q_lenS, q_lenT, q_ixL, q_ixT, q_ixS, q_isi_ii, q_isi_bi, q_isi_ib, q_isi_bb, q_isi_tt, q_isi_ll, q_isi_lt, q_isi_tl, q_isN_n, q_isN_t, q_isN_i, q_notN_n, q_notN_t, q_notN_i, q_eqS, q_neS, q_all, q_any, q_sum, q_tuple, q_listT, q_listL, q_idI, q_gcd, q_min2, q_isB, q_notB, Bool.not_true, Bool.not_false, Bool.not_not, at1_0, ixN1_0, at2_0, ixN2_0, at2_1, ixN2_1, at3_0, ixN3_0, at3_1, ixN3_1, at3_2, ixN3_2, at4_0, ixN4_0, at4_1, ixN4_1, at4_2, ixN4_2, at4_3, ixN4_3, at5_0, ixN5_0, at5_1, ixN5_1, at5_2, ixN5_2, at5_3, ixN5_3, at5_4, ixN5_4, at6_0, ixN6_0, at6_1, ixN6_1, at6_2, ixN6_2, at6_3, ixN6_3, at6_4, ixN6_4, at6_5, ixN6_5, ln0, ln1, ln2, ln3, ln4, ln5, ln6, ln7, ln8, ln9, ln10, ln11, ln12, ln13, ln14, ln15, ln16, ln17, ln18, ln19, ln20, ln21, ln22, ln23, ln24, nc0, nc1, nc2, nc3, nc4, nc5, nc6, nc7, nc8, nc9, nc10, nc11, nc12, nc13, nc14, nc15, nc16, false_imp_iff, implies_true, beq_self_eq_true, Int.reduceBEq, Int.reduceLT, Int.reduceLE, decide_true, decide_false, List.all_cons, List.all_nil, List.any_cons, List.any_nil, id_eq, Bool.and_true, Bool.true_and, Bool.and_false, Bool.false_and, Bool.or_true, Bool.true_or, Bool.or_false, Bool.false_or, e0]; with_reducible rfl)).trans ?_
  unfold A141
  exact xs_ret (by simp only [v_var, v_lit, v_op, v_tup, v_lst, v_and, v_or, v_ite, v_chain, v_call, v_comp, v_mut, v_met, vs_nil, vs_cons, x_asg, x_asgT, x_set, x_unp, x_par, x_aug, x_if, x_ifl, frzE_nil, frzE_cons, frzSl_un, frzSl_d, frzSl_own, x_whl, x_for, x_ret, x_retN, x_expr, x_brk, x_cont, x_pass, xs_nil, xs_cons, lockA, unlockA, evCond, rdAs, rdA, boolA, bd, frz, frzs, frzR, slA, slAs, refs, postA, keepA, keepAs, g_nm', g_tp', g_sb', gs_nil', gs_cons', isOwn, isSet, isLs, setAt, putN_eq, fr_d, fr_un, fr_own0, slT, asD, retT, n_nm, n_tp, n_tl, ns_nil, ns_cons, augF, augI, items, mutKeeps, mutF, pick, List.filterMap_cons, List.filterMap_nil, List.getElem?_cons_zero, List.getElem?_cons_succ, List.getElem?_nil, List.length_cons, List.length_nil, List.cons_append, List.nil_append, List.replicate, List.map_cons, List.map_nil, List.set_cons_zero, List.set_cons_succ, List.take_succ_cons, List.take_zero, Option.map_some, Nat.le_refl, Nat.zero_add, Nat.reduceAdd, Nat.reduceSub, Nat.reduceLeDiff, Nat.reduceEqDiff, if_true, if_false, Bool.false_eq_true, reduceIte, List.nodup_nil, List.nodup_cons, List.not_mem_nil, not_false_eq_true, and_true, true_and, List.mem_cons, or_false, or_self, forall_eq, forall_eq_or_imp,  Nat.le_add_left, Nat.zero_le, q_add, q_sub, q_neg, q_no, q_eq, q_ne, q_lt, q_le, q_gt, q_ge, q_toInt, q_abs, q_max2, q_lenL, q_lenS, q_lenT, q_ixL, q_ixT, q_ixS, q_isi_ii, q_isi_bi, q_isi_ib, q_isi_bb, q_isi_tt, q_isi_ll, q_isi_lt, q_isi_tl, q_isN_n, q_isN_t, q_isN_i, q_notN_n, q_notN_t, q_notN_i, q_eqS, q_neS, q_all, q_any, q_sum, q_tuple, q_listT, q_listL, q_idI, q_gcd, q_min2, q_isB, q_notB, Bool.not_true, Bool.not_false, Bool.not_not, at1_0, ixN1_0, at2_0, ixN2_0, at2_1, ixN2_1, at3_0, ixN3_0, at3_1, ixN3_1, at3_2, ixN3_2, at4_0, ixN4_0, at4_1, ixN4_1, at4_2, ixN4_2, at4_3, ixN4_3, at5_0, ixN5_0, at5_1, ixN5_1, at5_2, ixN5_2, at5_3, ixN5_3, at5_4, ixN5_4, at6_0, ixN6_0, at6_1, ixN6_1, at6_2, ixN6_2, at6_3, ixN6_3, at6_4, ixN6_4, at6_5, ixN6_5, ln0, ln1, ln2, ln3, ln4, ln5, ln6, ln7, ln8, ln9, ln10, ln11, ln12, ln13, ln14, ln15, ln16, ln17, ln18, ln19, ln20, ln21, ln22, ln23, ln24, nc0, nc1, nc2, nc3, nc4, nc5, nc6, nc7, nc8, nc9, nc10, nc11, nc12, nc13, nc14, nc15, nc16, false_imp_iff, implies_true, beq_self_eq_true, Int.reduceBEq, Int.reduceLT, Int.reduceLE, decide_true, decide_false, List.all_cons, List.all_nil, List.any_cons, List.any_nil, id_eq, Bool.and_true, Bool.true_and, Bool.and_false, Bool.false_and, Bool.or_true, Bool.true_or, Bool.or_false, Bool.false_or, wr6, l6, c, backE, bt, al])
end Z

set_option maxHeartbeats 40000000
namespace Z
open PySem PySem.Spec PyProof.Rows L2 Ev
abbrev hk : PySem.W.Hook := hookG 4 fa fn G.gcd G.cns
def ob (s : PySem.W.SharedT) : He.AlD × Bool := obG 4 fa fn G.gcd G.cns (HandSHeadRun.getT s)
theorem ob_eq (s : PySem.W.SharedT) : ob s = hk.obs s.abs := obG_eq (HandSHeadRun.getT_eq s)
theorem run (w : World) : HandSHeadRun.RunEqI R (PySem.W.view R.prog [31]) hk ob 30000 loose w := by
  unfold HandSHeadRun.RunEqI
  kernel_rfl
end Z
open PySem PySem.W PySem.Calls PyProof.Rows
theorem PySem.Challenge.cw_evenmarks_k24_whole_shares_between_neigh_holds : PySem.Challenge.rw_evenmarks_k24_whole_shares_between_neigh.Holds := by
  w_on; o_law
  refine HandSHeadRun.head_imp (r := OpenLaw.row Z.row) (q := view (OpenLaw.row Z.row).prog [31]) (H := Z.hk) (ob := Z.ob) (M := 30000) (loose := Z.loose) (d := HandSHeadRun.topDef (OpenLaw.row Z.row).prog 31) (kwd := []) Z.ob_eq Z.run (by kernel_rfl) (by kernel_rfl) (by kernel_rfl) (by rfl) (by first | assumption | decide +kernel) (by decide +kernel) ⟨rfl, rfl, rfl, rfl, rfl, by decide +kernel⟩ ?hw ?hc
  case hw => w_witness2
  case hc =>
    exact Ev.law_done (n := 63) (k := 100) (f := 14) (x := "script") (m := 4) (fa := Z.fa) (fn := Z.fn) (G := Z.G) (Ns := Z.Ns) (tb := Z.tb) (i := ⟨["script"], [true]⟩) rfl (by decide) (by kernel_rfl) (by decide) Z.tb_ok Z.fns_ok Z.bis_ok (by kernel_rfl) rfl rfl Z.math

