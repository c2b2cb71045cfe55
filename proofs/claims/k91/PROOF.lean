import PyProof.Rows.All
import Wide.All
import OpenK.AllK
import Wide.FinOn
import PySem.Str
import HandS.ForMost
import HandS.Exc
import HandS.ExcOwn
import HandS.TryOnly
import HandS.HeadHook1
import HandS.Deep
import HandS.TupAny
import HandS.TupMul
import HandS.SortInts
import HandS.Conv
import HandS.Style
import HandS.IsInst
import KE.DataFind
import PyProof.ListStr
import HandS.ExcIs
import HandS.Defaults
import HandS.HeadHook2
import HandS.Head0
import HandS.Head1
import HandS.Head2
import HandS.HeadEnd
import PyProof.TableCode
import PySem.Challenge.RW_onerule_k91_whole_two_at_once
set_option Elab.async false
set_option linter.all false
set_option maxRecDepth 100000
set_option maxHeartbeats 4000000
/-! # Mv: a small language of values, its evaluator. No program in sight. -/
namespace Mv
open PySem (Str)

/-- a value, all through. town: the law's list of draws (its length is the state's number); scr: the script -/
inductive D where
  | non | bl (b : Bool) | int (i : Int) | str (s : Str)
  | lst (xs : List D) | tup (xs : List D)
  | dic (kvs : List (D × D)) | exc (c : Str) | scr (ns : List Int) | town

abbrev iD (ns : List Int) : List D := ns.map D.int

inductive Out (α : Type) where
  | ok (a : α) (n : Nat) | ex (c : Str) (n : Nat) | bad

namespace Out
def bind {α β : Type} (o : Out α) (f : α → Nat → Out β) : Out β := match o with
  | ok a n => f a n
  | ex c n => ex c n
  | bad => bad
@[simp] theorem bind_ok {α β : Type} (a : α) (n : Nat) (f : α → Nat → Out β) : (ok a n).bind f = f a n := rfl
@[simp] theorem bind_ex {α β : Type} (c : Str) (n : Nat) (f : α → Nat → Out β) : (ex c n : Out α).bind f = ex c n := rfl
@[simp] theorem bind_bad {α β : Type} (f : α → Nat → Out β) : (bad : Out α).bind f = bad := rfl
def lift {α : Type} (o : Option α) (n : Nat) : Out α := match o with
  | some a => ok a n
  | none => bad
@[simp] theorem lift_some {α : Type} (a : α) (n : Nat) : lift (some a) n = ok a n := rfl
@[simp] theorem lift_none {α : Type} (n : Nat) : lift (none : Option α) n = bad := rfl
end Out

/-- the longest list -/
def line : Nat := 16777216
def fit (xs : List D) : Option (List D) := if xs.length ≤ line then some xs else none

/-! ### == -/
def strGood (x : Str) : Bool := x.cps.toList.all fun c => decide (c < 55296)
mutual
/-- may be compared: no deeper than k, plain -/
def shp : Nat → D → Bool
  | _, .non => true
  | _, .bl _ => true
  | _, .int _ => true
  | _, .str x => strGood x
  | k + 1, .lst xs => shpAll k xs
  | k + 1, .tup xs => shpAll k xs
  | _, _ => false
def shpAll : Nat → List D → Bool
  | _, [] => true
  | k, x :: xs => shp k x && shpAll k xs
end
mutual
def eqv : D → D → Bool
  | .non, .non => true
  | .bl a, .bl b => a == b
  | .bl a, .int j => (if a then 1 else 0) == j
  | .int i, .bl b => i == (if b then 1 else 0)
  | .int i, .int j => i == j
  | .str x, .str y => x == y
  | .lst xs, .lst ys => eqvAll xs ys
  | .tup xs, .tup ys => eqvAll xs ys
  | _, _ => false
def eqvAll : List D → List D → Bool
  | [], [] => true
  | x :: xs, y :: ys => eqv x y && eqvAll xs ys
  | _, _ => false
end
def deep : Nat := 20
def isEq (x y : D) : Option Bool := if shp deep x && shp deep y then some (eqv x y) else none

/-! ### small pieces -/
def truth : D → Option Bool
  | .non => some false
  | .bl b => some b
  | .int i => some (i != 0)
  | .str x => if x.length ≤ line then some (x.length != 0) else none
  | .lst xs => some (!xs.isEmpty)
  | .tup xs => some (!xs.isEmpty)
  | .scr ns => some (!ns.isEmpty)
  | _ => none
def ixN (n : Nat) (i : Int) : Option Nat := if 0 ≤ i then (if i < n then some i.toNat else none) else if -(n : Int) ≤ i then some (i + n).toNat else none
def sIx (n d : Nat) : Option Int → Nat
  | none => d
  | some v => if v < 0 then (v + n).toNat else min v.toNat n
def cut {α : Type} (xs : List α) (lo hi : Option Int) : List α := (xs.drop (sIx xs.length 0 lo)).take (sIx xs.length xs.length hi - sIx xs.length 0 lo)
def flat : D → Bool
  | .non | .bl _ | .int _ | .str _ => true
  | _ => false
def items : D → Option (List D)
  | .lst xs => some xs
  | .tup xs => some xs
  | _ => none
def range (n : Int) : List D := (List.range n.toNat).map fun k => D.int (k : Nat)
def bools : List D → Option (List Bool)
  | [] => some []
  | .bl b :: r => (bools r).map (b :: ·)
  | _ => none
def intsOf : List D → Option (List Int)
  | [] => some []
  | .int i :: r => (intsOf r).map (i :: ·)
  | _ => none
def strsOf : List D → Option (List Str)
  | [] => some []
  | .str i :: r => (strsOf r).map (i :: ·)
  | _ => none
/-- insertion -/
def ins1 {α : Type} (le : α → α → Bool) (a : α) : List α → List α
  | [] => [a]
  | b :: r => if le a b then a :: b :: r else b :: ins1 le a r
def isort {α : Type} (le : α → α → Bool) : List α → List α
  | [] => []
  | a :: r => ins1 le a (isort le r)
def sortI (ns : List Int) : List Int := isort (fun a b => decide (a ≤ b)) ns
/-- each once, the first of each kept -/
def once : List Int → List Int
  | [] => []
  | a :: r => a :: (once r).filter fun b => decide (b ≠ a)
def one (c : Nat) : D := .str ⟨#[c]⟩

/-- one value's -/
inductive P1 where
  | len | all_ | any_ | srt | sset | lset | toL | toT | neg | strI | rev | tru | isN | notN | rngL | rngT | not_
  | isStr | isTup | isLst | isBool | isExc (c : Str) | sum_ | minL | setL
/-- two values' -/
inductive P2 where
  | add | sub | mul | mod | fdiv | pow | eq | ne | lt | le | gt | ge | in_ | nin | idx | min2 | max2 | index | count | join

/-- is an error of this class one of the other -/
abbrev Sub := Str → Str → Bool

def sem1 (S : Sub) (p : P1) (n : Nat) (d : D) : Option D := match p, d with
  | .len, .lst xs => some (.int xs.length)
  | .len, .tup xs => some (.int xs.length)
  | .len, .str x => if x.length ≤ line then some (.int x.length) else none
  | .len, .scr ns => some (.int ns.length)
  | .len, .town => some (.int n)
  | .all_, .lst xs => (bools xs).map fun bs => .bl (bs.all id)
  | .any_, .lst xs => (bools xs).map fun bs => .bl (bs.any id)
  | .srt, .lst xs => (intsOf xs).map fun ns => .lst (iD (sortI ns))
  | .sset, .lst xs => (intsOf xs).bind fun ns => if ns.length ≤ 60 then some (.lst (iD (sortI (once ns)))) else none
  | .sset, .tup xs => (intsOf xs).bind fun ns => if ns.length ≤ 60 then some (.lst (iD (sortI (once ns)))) else none
  | .lset, .lst xs => (intsOf xs).bind fun ns => if ns.length ≤ 60 then some (.int (once ns).length) else none
  | .lset, .tup xs => (intsOf xs).bind fun ns => if ns.length ≤ 60 then some (.int (once ns).length) else none
  | .toL, .lst xs => some (.lst xs)
  | .toL, .tup xs => some (.lst xs)
  | .toL, .str x => if x.length ≤ line then some (.lst (x.cps.toList.map one)) else none
  | .toT, .lst xs => some (.tup xs)
  | .toT, .tup xs => some (.tup xs)
  | .neg, .int i => some (.int (-i))
  | .strI, .int i => if i.natAbs.log2 < 1920 then some (.str (toString i)) else none
  | .rev, .lst xs => some (.lst xs.reverse)
  | .tru, d => (truth d).map D.bl
  | .isN, .non => some (.bl true)
  | .isN, .bl _ => some (.bl false)
  | .isN, .int _ => some (.bl false)
  | .isN, .str _ => some (.bl false)
  | .isN, .lst _ => some (.bl false)
  | .isN, .tup _ => some (.bl false)
  | .isN, .exc _ => some (.bl false)
  | .notN, .non => some (.bl false)
  | .notN, .bl _ => some (.bl true)
  | .notN, .int _ => some (.bl true)
  | .notN, .str _ => some (.bl true)
  | .notN, .lst _ => some (.bl true)
  | .notN, .tup _ => some (.bl true)
  | .notN, .exc _ => some (.bl true)
  | .rngL, .int i => if i ≤ line ∧ -(2 ^ 62) ≤ i then some (.lst (range i)) else none
  | .rngT, .int i => if i ≤ line ∧ -(2 ^ 62) ≤ i then some (.tup (range i)) else none
  | .not_, .bl b => some (.bl (!b))
  | .isStr, .str _ => some (.bl true)
  | .isStr, .tup _ => some (.bl false)
  | .isTup, .tup _ => some (.bl true)
  | .isTup, .str _ => some (.bl false)
  | .isExc c, .exc e => if S e "ValueError" then some (.bl (S e c)) else none
  | .sum_, .lst xs => (intsOf xs).map fun ns => .int ns.sum
  | _, _ => none

def sem2 (p : P2) (n : Nat) (d e : D) : Option D := match p, d, e with
  | .add, .int i, .int j => some (.int (i + j))
  | .add, .str x, .str y => if x.length + y.length ≤ line then some (.str (x ++ y)) else none
  | .add, .lst xs, .lst ys => if xs.length + ys.length ≤ line then some (.lst (xs ++ ys)) else none
  | .add, .tup xs, .tup ys => if xs.length + ys.length ≤ line then some (.tup (xs ++ ys)) else none
  | .sub, .int i, .int j => some (.int (i - j))
  | .mul, .int i, .int j => if (-(2 ^ 64) < i ∧ i < 2 ^ 64) ∨ (-(2 ^ 64) < j ∧ j < 2 ^ 64) then some (.int (i * j)) else none
  | .mul, .lst xs, .int k => if k < 2 ^ 63 ∧ -(2 ^ 63) ≤ k ∧ xs.length * k.toNat ≤ line then some (.lst (List.replicate k.toNat xs).flatten) else none
  | .mul, .tup xs, .int k => if xs ≠ [] ∧ 2 ≤ k ∧ k ≤ 1000 ∧ xs.length ≤ 1000 then some (.tup (List.replicate k.toNat xs).flatten) else none
  | .mod, .int i, .int j => if 0 < j then some (.int (i % j)) else none
  | .fdiv, .int i, .int j => if 0 < j ∧ j < 1073741824 then some (.int (i / j)) else none
  | .pow, .int i, .int j => if 0 ≤ j ∧ j ≤ 1000000 ∧ i.natAbs < 2 ^ 64 then some (.int (i ^ j.toNat)) else none
  | .eq, d, e => (isEq d e).map D.bl
  | .ne, d, e => (isEq d e).map fun b => D.bl (!b)
  | .lt, .int i, .int j => some (.bl (decide (i < j)))
  | .le, .int i, .int j => some (.bl (decide (i ≤ j)))
  | .gt, .int i, .int j => some (.bl (decide (j < i)))
  | .ge, .int i, .int j => some (.bl (decide (j ≤ i)))
  | .lt, .str x, .str y => some (.bl (decide (x.cps.toList < y.cps.toList)))
  | .in_, d, .lst ys => if shp deep d && shpAll deep ys then some (.bl (ys.any fun y => eqv y d)) else none
  | .nin, d, .lst ys => if shp deep d && shpAll deep ys then some (.bl (!ys.any fun y => eqv y d)) else none
  | .in_, d, .tup ys => if flat d && ys.all flat then some (.bl (ys.any fun y => eqv y d)) else none
  | .nin, d, .tup ys => if flat d && ys.all flat then some (.bl (!ys.any fun y => eqv y d)) else none
  | .in_, .str x, .str z => (match x.cps.toList with | [c] => some (.bl (decide (c ∈ z.cps.toList))) | _ => none)
  | .nin, .str x, .str z => (match x.cps.toList with | [c] => some (.bl (!decide (c ∈ z.cps.toList))) | _ => none)
  | .idx, .lst xs, .int i => (ixN xs.length i).bind fun j => xs[j]?
  | .idx, .tup xs, .int i => (ixN xs.length i).bind fun j => xs[j]?
  | .idx, .scr ns, .int i => (ixN ns.length i).bind fun j => (ns[j]?).map D.int
  | .idx, .str z, .int i => if z.length ≤ line then (ixN z.length i).bind fun j => (z.cps.toList[j]?).map one else none
  | .min2, .int i, .int j => some (.int (if j < i then j else i))
  | .max2, .int i, .int j => some (.int (if j > i then j else i))
  | .index, .lst xs, d => if shp deep d && shpAll deep xs then (xs.findIdx? fun y => eqv y d).map fun j => .int (j : Nat) else none
  | .count, .lst xs, d => if shp deep d && shpAll deep xs then some (.int (xs.countP fun y => eqv y d : Nat)) else none
  | _, _, _ => none
def partOf (absent : Bool) (d : D) : Option (Option Int) := if absent then some none else match d with
  | .int i => some (some i)
  | _ => none
def semSl (d : D) (l h : Option Int) : Option D := match d with
  | .lst xs => some (.lst (cut xs l h))
  | .tup xs => some (.tup (cut xs l h))
  | .str z => if z.length ≤ line then some (.str ⟨(cut z.cps.toList l h).toArray⟩) else none
  | _ => none

/-! ### the language -/
mutual
inductive ME where
  | bad
  | c (d : D)
  | v (i : Nat)
  | p1 (p : P1) (a : ME)
  | p2 (p : P2) (a b : ME)
  | mt (p : P2) (a b : ME)
  | sl (a lo hi : ME)
  | chn (p q : P2) (a b c : ME)
  | and (a b : ME)
  | or (a b : ME)
  | ite (t a b : ME)
  | call (f : Str) (as : MEs)
  | tup (as : MEs)
  | lst (as : MEs)
  | lc (tg : List Nat) (it : MI) (t e : ME)
inductive MEs where
  | nil
  | cons (a : ME) (as : MEs)
inductive MI where
  | sq (a : ME)
  | rg (a : ME)
end
mutual
inductive MS where
  | bad
  | set (i : Nat) (e : ME)
  | mov (i j : Nat)
  | unp (is : List Nat) (e : ME)
  | par (i j : Nat) (a b : ME)
  | ex (e : ME)
  | app (i : Nat) (e : ME)
  | ext (i : Nat) (e : ME)
  | sto (i : Nat) (k e : ME)
  | swp (i : Nat) (k l a b : ME)
  | ins (i : Nat) (k e : ME)
  | popu (is : List Nat) (i : Nat)
  | tick (i : Nat)
  | if_ (t : ME) (a b : MB)
  | for_ (tg : List Nat) (it : MI) (b : MB)
  | whl (f : Nat) (t : ME) (b : MB)
  | ret (e : ME)
  | rais (c : Str)
  | try_ (b : MB) (i j : Nat)
inductive MB where
  | nil
  | cons (s : MS) (b : MB)
end

def isAbs : ME → Bool
  | .c .non => true
  | _ => false
abbrev Ev := List (Option D)
abbrev Tab := Str → Option (Nat × (List D → Nat → Out D))

def bindT (tg : List Nat) (d : D) (env : Ev) : Option Ev := match tg with
  | [i] => some (env.set i (some d))
  | [i, j] => (match d with | .tup [x, y] => some ((env.set i (some x)).set j (some y)) | _ => none)
  | [i, j, k] => (match d with | .tup [x, y, z] => some (((env.set i (some x)).set j (some y)).set k (some z)) | _ => none)
  | _ => none
def wipeD (env : Ev) : List Nat → Ev
  | [] => env
  | v :: vs => (wipeD env vs).set v none

/-- what a comprehension gathers -/
def gather (f : D → Nat → Out (Option D)) : List D → Nat → Out (List D)
  | [], n => .ok [] n
  | x :: r, n => match f x n with
    | .ok o n1 => (match gather f r n1 with
      | .ok ys n2 => .ok (match o with | some y => y :: ys | none => ys) n2
      | _ => .bad)
    | _ => .bad

/-- one turn of a comprehension -/
def turnL (bt : D → Option Ev) (t e : Ev → Nat → Out D) (x : D) (n : Nat) : Out (Option D) := match bt x with
  | some env1 => (match t env1 n with
    | .ok (.bl true) n1 => (match e env1 n1 with
      | .ok y n2 => .ok (some y) n2
      | _ => .bad)
    | .ok (.bl false) n1 => .ok none n1
    | _ => .bad)
  | none => .bad
section
variable (S : Sub) (T : Tab)
mutual
def evE : ME → Ev → Nat → Out D
  | .bad, _, _ => .bad
  | .c d, _, n => .ok d n
  | .v i, env, n => (match env[i]? with | some (some d) => .ok d n | _ => .bad)
  | .p1 p a, env, n => (evE a env n).bind fun d n => .lift (sem1 S p n d) n
  | .p2 p a b, env, n => (evE a env n).bind fun d n => (evE b env n).bind fun e n => .lift (sem2 p n d e) n
  | .mt p a b, env, n => (evE a env n).bind fun d n => (match d with
      | .lst _ => (evE b env n).bind fun e n => .lift (sem2 p n d e) n
      | _ => .bad)
  | .sl a lo hi, env, n => (evE a env n).bind fun d n => (evE lo env n).bind fun l n => (Out.lift (partOf (isAbs lo) l) n).bind fun l n => (evE hi env n).bind fun h n => (Out.lift (partOf (isAbs hi) h) n).bind fun h n => .lift (semSl d l h) n
  | .chn p q a b c, env, n => (evE a env n).bind fun d n => (evE b env n).bind fun e n => (Out.lift (sem2 p n d e) n).bind fun z n => (match z with
      | .bl true => (evE c env n).bind fun f n => .lift (sem2 q n e f) n
      | .bl false => .ok (.bl false) n
      | _ => .bad)
  | .and a b, env, n => (evE a env n).bind fun d n => (match d with | .bl true => evE b env n | .bl false => .ok (.bl false) n | _ => .bad)
  | .or a b, env, n => (evE a env n).bind fun d n => (match d with | .bl false => evE b env n | .bl true => .ok (.bl true) n | _ => .bad)
  | .ite t a b, env, n => (evE t env n).bind fun d n => (match d with | .bl true => evE a env n | .bl false => evE b env n | _ => .bad)
  | .call f as, env, n => (match T f with
      | some (k, run) => (evA as env n).bind fun ds n => if ds.length = k then run ds n else .bad
      | none => .bad)
  | .tup as, env, n => (evA as env n).bind fun ds n => .lift ((fit ds).map D.tup) n
  | .lst as, env, n => (evA as env n).bind fun ds n => .lift ((fit ds).map D.lst) n
  | .lc tg it t e, env, n => (evI it env n).bind fun xs n => (gather (turnL (fun x => bindT tg x (wipeD env tg)) (evE t) (evE e)) xs n).bind fun ys n => .ok (.lst ys) n
def evA : MEs → Ev → Nat → Out (List D)
  | .nil, _, n => .ok [] n
  | .cons a as, env, n => (evE a env n).bind fun d n => (evA as env n).bind fun ds n => .ok (d :: ds) n
def evI : MI → Ev → Nat → Out (List D)
  | .sq a, env, n => (evE a env n).bind fun d n => .lift (items d) n
  | .rg a, env, n => (evE a env n).bind fun d n => (match d with | .int i => if i ≤ line ∧ -(2 ^ 62) ≤ i then .ok (range i) n else .bad | _ => .bad)
end

/-- a statement's end -/
inductive SO where
  | nx (env : Ev) (n : Nat) | rt (d : D) (n : Nat) | ex (c : Str) (n : Nat) (env : Ev) | bad
def SO.of {α : Type} (env : Ev) (o : Out α) (f : α → Nat → SO) : SO := match o with
  | .ok a n => f a n
  | .ex c n => .ex c n env
  | .bad => .bad
def SO.then (o : SO) (f : Ev → Nat → SO) : SO := match o with
  | .nx env n => f env n
  | .rt d n => .rt d n
  | .ex c n env => .ex c n env
  | .bad => .bad
def ofO {α : Type} (o : Option α) (f : α → SO) : SO := match o with
  | some a => f a
  | none => .bad
/-- a loop over items -/
def forL (tg : List Nat) (b : Ev → Nat → SO) : List D → Ev → Nat → SO
  | [], env, n => .nx env n
  | x :: r, env, n => ofO (bindT tg x env) fun env1 => (b env1 n).then fun env2 n2 => forL tg b r env2 n2
def whlL (t : Ev → Nat → Out D) (b : Ev → Nat → SO) : Nat → Ev → Nat → SO
  | 0, _, _ => .bad
  | f + 1, env, n => SO.of env (t env n) fun d n => match d with
    | .bl true => (b env n).then fun env2 n2 => whlL t b f env2 n2
    | .bl false => .nx env n
    | _ => .bad
def getL (env : Ev) (i : Nat) : Option (List D) := match env[i]? with
  | some (some (.lst xs)) => some xs
  | _ => none
def putL (env : Ev) (i : Nat) (xs : List D) : Ev := env.set i (some (.lst xs))
mutual
def evS : MS → Ev → Nat → SO
  | .bad, _, _ => .bad
  | .set i e, env, n => SO.of env (evE S T e env n) fun d n => .nx (env.set i (some d)) n
  | .mov i j, env, n => (match env[j]? with | some (some d) => .nx ((env.set i (some d)).set j none) n | _ => .bad)
  | .unp is e, env, n => SO.of env (evE S T e env n) fun d n => ofO (bindT is d env) fun env => .nx env n
  | .par i j a b, env, n => SO.of env (evE S T a env n) fun d n => SO.of env (evE S T b env n) fun e n => .nx ((env.set i (some d)).set j (some e)) n
  | .ex e, env, n => SO.of env (evE S T e env n) fun _ n => .nx env n
  | .app i e, env, n => SO.of env (evE S T e env n) fun d n => ofO (getL env i) fun xs => if xs.length < line then .nx (putL env i (xs ++ [d])) n else .bad
  | .ext i e, env, n => SO.of env (evE S T e env n) fun d n => ofO (getL env i) fun xs => (match d with
      | .lst ys => if xs.length + ys.length ≤ line then .nx (putL env i (xs ++ ys)) n else .bad
      | _ => .bad)
  | .sto i k e, env, n => SO.of env (evE S T e env n) fun d n => SO.of env (evE S T k env n) fun k n => ofO (getL env i) fun xs => (match k with
      | .int k => ofO (ixN xs.length k) fun j => .nx (putL env i (xs.set j d)) n
      | _ => .bad)
  | .swp i k l a b, env, n => SO.of env (evE S T a env n) fun x n => SO.of env (evE S T b env n) fun y n => SO.of env (evE S T k env n) fun k n => ofO (getL env i) fun xs => (match k with
      | .int k => ofO (ixN xs.length k) fun j => SO.of (putL env i (xs.set j x)) (evE S T l (putL env i (xs.set j x)) n) fun l n => (match l with
        | .int l => ofO (ixN xs.length l) fun j2 => .nx (putL env i ((xs.set j x).set j2 y)) n
        | _ => .bad)
      | _ => .bad)
  | .ins i k e, env, n => SO.of env (evE S T k env n) fun k n => SO.of env (evE S T e env n) fun d n => ofO (getL env i) fun xs => (match k with
      | .int k => if 0 ≤ k ∧ k ≤ xs.length ∧ xs.length < line then .nx (putL env i (xs.take k.toNat ++ d :: xs.drop k.toNat)) n else .bad
      | _ => .bad)
  | .popu is i, env, n => ofO (getL env i) fun xs => (match xs.getLast? with
      | some d => ofO (bindT is d (putL env i xs.dropLast)) fun env => .nx env n
      | none => .bad)
  | .tick i, env, n => (match env[i]? with | some (some .town) => if n < line then .nx env (n + 1) else .bad | _ => .bad)
  | .if_ t a b, env, n => SO.of env (evE S T t env n) fun d n => (match d with | .bl true => evB a env n | .bl false => evB b env n | _ => .bad)
  | .for_ tg it b, env, n => SO.of env (evI S T it env n) fun xs n => forL tg (evB b) xs env n
  | .whl f t b, env, n => whlL (evE S T t) (evB b) f env n
  | .ret e, env, n => SO.of env (evE S T e env n) fun d n => .rt d n
  | .rais c, env, n => .ex c n env
  | .try_ b i j, env, n => (match evB b env n with
      | .ex c n env => if S c "RuleError" then .nx ((env.set i (some (.exc c))).set j none) n else .bad
      | o => o)
def evB : MB → Ev → Nat → SO
  | .nil, env, n => .nx env n
  | .cons s b, env, n => (evS s env n).then fun env n => evB b env n
end
/-- a def: so many names, its body -/
def evF (size : Nat) (b : MB) (ds : List D) (n : Nat) : Out D := match evB S T b (ds.map some ++ List.replicate (size - ds.length) none) n with
  | .nx _ n => .ok .non n
  | .rt d n => .ok d n
  | .ex c n _ => .ex c n
  | .bad => .bad
end
/-! ### tables of defs -/
structure En where
  f : Str
  k : Nat
  run : List D → Nat → Out D
def tabOf : List En → Tab
  | [] => fun _ => none
  | e :: r => fun f => if f = e.f then some (e.k, e.run) else tabOf r f
/-- a def that calls itself: run by run -/
def selfRun (S : Sub) (f : Str) (k : Nat) (size : Nat) (b : MB) (r : List En) : Nat → List D → Nat → Out D
  | 0 => fun _ _ => .bad
  | m + 1 => evF S (tabOf (⟨f, k, selfRun S f k size b r m⟩ :: r)) size b
/-- turns of a while that are looked at -/
def turnsW : Nat := 10000
def subS (ec : List Str) : Sub := fun c x => decide (c ∈ ec) && (decide (x = c) || decide (x = ("RuleError" : Str)) || decide (x = ("ValueError" : Str)))
end Mv

/-! # Ms: the small language is told by the program's own run -/
namespace L2.Ms
open PySem PySem.Spec PyProof.Rows Mv

def Le (F G : Hp) : Prop := ∀ a o, F a = some o → G a = some o
theorem Le.rfl {F : Hp} : Le F F := fun _ _ e => e
theorem Le.trans {F G H : Hp} (a : Le F G) (b : Le G H) : Le F H := fun x o e => b x o (a x o e)
theorem Le.grow {F : Hp} {p : Addr} {o : HO} (h : F p = none) : Le F (upd F p o) := fun a u e => by rw [upd_ne (ne_of_none e h)]; exact e
theorem Le.both {F G : Hp} {p : Addr} {o : HO} (l : Le F G) : Le (upd F p o) (upd G p o) := fun a u e => by
  by_cases h : a = p
  · subst h; rw [upd_same] at e ⊢; exact e
  · rw [upd_ne h] at e ⊢; exact l a u e
theorem Le.non {F G : Hp} (l : Le F G) {a : Addr} (h : G a = none) : F a = none := by
  cases e : F a with
  | none => rfl
  | some o => rw [l a o e] at h; cases h
theorem Le.has {F G : Hp} (l : Le F G) {a : Addr} (h : F a ≠ none) : G a ≠ none := fun z => h (l.non z)
theorem Le.right {F G : Hp} {p : Addr} {o : HO} (l : Le F G) (h : F p = none) : Le F (upd G p o) := fun a u e => by rw [upd_ne (ne_of_none e h)]; exact l a u e

/-- an error of the class c of the module -/
def ExcAt (K : PySem.W.Frag) (c : Str) (a : Addr) (h : Heap) : Prop := ∃ o vs, h.get? a = some o ∧ o.cls = .ref (He.ga K c) ∧ o.dict = none ∧ o.data = .fields vs
def exO (K : PySem.W.Frag) (c : Str) (a : Addr) : HO := .ext (ExcAt K c a)

/-- what is the same all through a law: the written part, the town's place -/
structure Cn where
  K : PySem.W.Frag
  pt : Option Addr

mutual
inductive Rep (z : Cn) (F : Hp) : V → D → Prop
  | non : Rep z F .non .non
  | bl (b : Bool) : Rep z F (.bl b) (.bl b)
  | int (i : Int) : Rep z F (.int i) (.int i)
  | str (x : Str) : Rep z F (.str x) (.str x)
  | lst {a : Addr} {xs : List V} {ds : List D} : F a = some (.lst xs) → RepL z F xs ds → Rep z F (.ref a) (.lst ds)
  | tup {a : Addr} {xs : List V} {ds : List D} : F a = some (.tup xs) → RepL z F xs ds → Rep z F (.ref a) (.tup ds)
  | exc {a : Addr} {c : Str} : F a = some (exO z.K c a) → Rep z F (.ref a) (.exc c)
  | scr {a : Addr} {ns : List Int} : SqL z.K F a (ns.map V.int) → Rep z F (.ref a) (.scr ns)
  | town {a : Addr} : z.pt = some a → Rep z F (.ref a) .town
inductive RepL (z : Cn) (F : Hp) : List V → List D → Prop
  | nil : RepL z F [] []
  | cons {v : V} {vs : List V} {d : D} {ds : List D} : Rep z F v d → RepL z F vs ds → RepL z F (v :: vs) (d :: ds)
end
theorem sqL_mono {K : PySem.W.Frag} {F G : Hp} (l : Le F G) {a : Addr} {xs : List V} (h : SqL K F a xs) : SqL K G a xs := by
  rcases h with (h | ⟨o, h⟩) | h
  · exact .inl (.inl (l _ _ h))
  · exact .inl (.inr ⟨o, l _ _ h⟩)
  · exact .inr h
mutual
theorem Rep.mono {z : Cn} {F G : Hp} (l : Le F G) : ∀ {v : V} {d : D}, Rep z F v d → Rep z G v d
  | _, _, .non => .non
  | _, _, .bl b => .bl b
  | _, _, .int i => .int i
  | _, _, .str x => .str x
  | _, _, .lst e r => .lst (l _ _ e) (RepL.mono l r)
  | _, _, .tup e r => .tup (l _ _ e) (RepL.mono l r)
  | _, _, .exc e => .exc (l _ _ e)
  | _, _, .scr e => .scr (sqL_mono l e)
  | _, _, .town e => .town e
theorem RepL.mono {z : Cn} {F G : Hp} (l : Le F G) : ∀ {v : List V} {d : List D}, RepL z F v d → RepL z G v d
  | _, _, .nil => .nil
  | _, _, .cons h t => .cons (Rep.mono l h) (RepL.mono l t)
end
theorem RepL.length {z : Cn} {F : Hp} : ∀ {vs : List V} {ds : List D}, RepL z F vs ds → vs.length = ds.length
  | _, _, .nil => rfl
  | _, _, .cons _ t => by simp [RepL.length t]
theorem RepL.append {z : Cn} {F : Hp} : ∀ {vs us : List V} {ds es : List D}, RepL z F vs ds → RepL z F us es → RepL z F (vs ++ us) (ds ++ es)
  | _, _, _, _, .nil, s => s
  | _, _, _, _, .cons h t, s => .cons h (RepL.append t s)
theorem RepL.get {z : Cn} {F : Hp} : ∀ {vs : List V} {ds : List D} {i : Nat} {d : D}, RepL z F vs ds → ds[i]? = some d → ∃ v, vs[i]? = some v ∧ Rep z F v d
  | _, _, _, _, .nil, e => by simp at e
  | _, _, 0, _, .cons h t, e => by simp at e; subst e; exact ⟨_, rfl, h⟩
  | _, _, i + 1, _, .cons h t, e => by
    obtain ⟨v, a, b⟩ := RepL.get (i := i) t (by simpa using e)
    exact ⟨v, by simpa using a, b⟩
theorem RepL.getV {z : Cn} {F : Hp} : ∀ {vs : List V} {ds : List D} {i : Nat} {v : V}, RepL z F vs ds → vs[i]? = some v → ∃ d, ds[i]? = some d ∧ Rep z F v d
  | _, _, _, _, .nil, e => by simp at e
  | _, _, 0, _, .cons h t, e => by simp at e; subst e; exact ⟨_, rfl, h⟩
  | _, _, i + 1, _, .cons h t, e => by
    obtain ⟨d, a, b⟩ := RepL.getV (i := i) t (by simpa using e)
    exact ⟨d, by simpa using a, b⟩
theorem RepL.take {z : Cn} {F : Hp} : ∀ {vs : List V} {ds : List D} (k : Nat), RepL z F vs ds → RepL z F (vs.take k) (ds.take k)
  | _, _, 0, _ => by simp; exact .nil
  | _, _, _ + 1, .nil => by simp; exact .nil
  | _, _, k + 1, .cons h t => .cons h (RepL.take k t)
theorem RepL.drop {z : Cn} {F : Hp} : ∀ {vs : List V} {ds : List D} (k : Nat), RepL z F vs ds → RepL z F (vs.drop k) (ds.drop k)
  | _, _, 0, r => by simpa using r
  | _, _, _ + 1, .nil => by simp; exact .nil
  | _, _, k + 1, .cons h t => by simpa using RepL.drop k t
theorem RepL.set {z : Cn} {F : Hp} {v : V} {d : D} (r : Rep z F v d) : ∀ {vs : List V} {ds : List D} (k : Nat), RepL z F vs ds → RepL z F (vs.set k v) (ds.set k d)
  | _, _, _, .nil => by simp; exact .nil
  | _, _, 0, .cons h t => .cons r t
  | _, _, k + 1, .cons h t => .cons h (RepL.set r k t)
theorem RepL.reverse {z : Cn} {F : Hp} : ∀ {vs : List V} {ds : List D}, RepL z F vs ds → RepL z F vs.reverse ds.reverse
  | _, _, .nil => .nil
  | _, _, .cons h t => by simp only [List.reverse_cons]; exact (RepL.reverse t).append (.cons h .nil)
theorem RepL.rep {z : Cn} {F : Hp} {vs : List V} {ds : List D} (h : RepL z F vs ds) : ∀ k : Nat, RepL z F (List.replicate k vs).flatten (List.replicate k ds).flatten
  | 0 => .nil
  | k + 1 => by
    show RepL z F (List.flatten (vs :: List.replicate k vs)) (List.flatten (ds :: List.replicate k ds))
    exact h.append (RepL.rep h k)
theorem repL_ints {z : Cn} {F : Hp} : ∀ ns : List Int, RepL z F (ns.map V.int) (ns.map D.int)
  | [] => .nil
  | n :: r => .cons (.int n) (repL_ints r)
theorem RepL.intsV {z : Cn} {F : Hp} : ∀ {vs : List V} {ns : List Int}, RepL z F vs (ns.map D.int) → vs = ns.map V.int
  | _, [], h => by cases h; rfl
  | _, n :: r, h => by
    cases h with
    | cons a t => cases a; rw [RepL.intsV t]; rfl
theorem RepL.dropLast {z : Cn} {F : Hp} {vs : List V} {ds : List D} (h : RepL z F vs ds) : RepL z F vs.dropLast ds.dropLast := by
  rw [List.dropLast_eq_take, List.dropLast_eq_take, h.length]; exact h.take _

/-- levels: 0 all through in G; 1 a list whose own cell may lie in G alone; 2 all through in F -/
def RepI (z : Cn) (F G : Hp) (v : V) (d : D) : Prop := match d with
  | .lst ds => ∃ a vs, v = .ref a ∧ G a = some (.lst vs) ∧ RepL z F vs ds
  | d => Rep z F v d
def RepLv (z : Cn) (lv : Nat) (F G : Hp) (v : V) (d : D) : Prop := match lv with
  | 0 => Rep z G v d
  | 1 => RepI z F G v d
  | _ => Rep z F v d
theorem Rep.i {z : Cn} {F G : Hp} (l : Le F G) {v : V} {d : D} (h : Rep z F v d) : RepI z F G v d := by
  cases h with
  | lst e r => exact ⟨_, _, rfl, l _ _ e, r⟩
  | non => exact .non
  | bl b => exact .bl b
  | int i => exact .int i
  | str x => exact .str x
  | tup e r => exact .tup e r
  | exc e => exact .exc e
  | scr e => exact .scr e
  | town e => exact .town e
theorem RepI.g {z : Cn} {F G : Hp} (l : Le F G) {v : V} {d : D} (h : RepI z F G v d) : Rep z G v d := by
  cases d with
  | lst ds => obtain ⟨a, vs, rfl, e, r⟩ := h; exact .lst e (r.mono l)
  | _ => exact Rep.mono l h
theorem RepI.mono {z : Cn} {F G F' G' : Hp} (l : Le F F') (m : Le G G') {v : V} {d : D} (h : RepI z F G v d) : RepI z F' G' v d := by
  cases d with
  | lst ds => obtain ⟨a, vs, rfl, e, r⟩ := h; exact ⟨a, vs, rfl, m _ _ e, r.mono l⟩
  | _ => exact Rep.mono l h
theorem RepLv.mono {z : Cn} {lv : Nat} {F G F' G' : Hp} (l : Le F F') (m : Le G G') {v : V} {d : D} (h : RepLv z lv F G v d) : RepLv z lv F' G' v d := by
  match lv, h with
  | 0, h => exact Rep.mono m h
  | 1, h => exact RepI.mono l m h
  | _ + 2, h => exact Rep.mono l h
theorem RepLv.g {z : Cn} {lv : Nat} {F G : Hp} (l : Le F G) {v : V} {d : D} (h : RepLv z lv F G v d) : Rep z G v d := by
  match lv, h with
  | 0, h => exact h
  | 1, h => exact RepI.g l h
  | _ + 2, h => exact Rep.mono l h
theorem RepLv.i {z : Cn} {lv : Nat} {F G : Hp} (l : Le F G) {v : V} {d : D} (hl : 1 ≤ lv) (h : RepLv z lv F G v d) : RepI z F G v d := by
  match lv, hl, h with
  | 1, _, h => exact h
  | _ + 2, _, h => exact Rep.i l h
theorem RepLv.two {z : Cn} {lv : Nat} {F G : Hp} {v : V} {d : D} (hl : 2 ≤ lv) (h : RepLv z lv F G v d) : Rep z F v d := by
  match lv, hl, h with
  | _ + 2, _, h => exact h
theorem Rep.lv {z : Cn} {F G : Hp} (l : Le F G) {v : V} {d : D} (lv : Nat) (h : Rep z F v d) : RepLv z lv F G v d := by
  match lv with
  | 0 => exact Rep.mono l h
  | 1 => exact Rep.i l h
  | _ + 2 => exact h

/-- what is the same all through a def's run -/
structure Fx extends Cn where
  H0 : Hp
  F0 : Hp
  own : Nat → Bool

/-- the heap goes on: nothing that stands in F or G is lost, what is new was free; the town has n' -/
structure Step (z : Fx) (H F G H' F' G' : Hp) (n' : Nat) : Prop where
  ff : Le F F'
  gg : Le G G'
  fg : Le F' G'
  gh : Le G' H'
  nf : ∀ a, F' a ≠ none → F a ≠ none ∨ H a = none
  ng : ∀ a, G' a ≠ none → G a ≠ none ∨ H a = none
  h0 : ∀ a o, z.H0 a = some o → z.pt ≠ some a → H' a = some o
  dom : ∀ a, H a ≠ none → H' a ≠ none
  tw : ∀ a, z.pt = some a → H' a = some (.lst (List.replicate n' (.int 0))) ∧ G' a = none ∧ z.H0 a ≠ none
theorem Step.trans {z : Fx} {H F G H1 F1 G1 H2 F2 G2 : Hp} {n1 n2 : Nat} (a : Step z H F G H1 F1 G1 n1) (b : Step z H1 F1 G1 H2 F2 G2 n2) : Step z H F G H2 F2 G2 n2 where
  ff := a.ff.trans b.ff
  gg := a.gg.trans b.gg
  fg := b.fg
  gh := b.gh
  nf := fun x h => by
    rcases b.nf x h with h | h
    · exact a.nf x h
    · exact .inr (Classical.byContradiction fun q => a.dom x q h)
  ng := fun x h => by
    rcases b.ng x h with h | h
    · exact a.ng x h
    · exact .inr (Classical.byContradiction fun q => a.dom x q h)
  h0 := b.h0
  dom := fun x h => b.dom x (a.dom x h)
  tw := b.tw

structure ER (z : Fx) (σ : St) (H F G : Hp) (env : Ev) (n : Nat) : Prop where
  fg : Le F G
  gh : Le G H
  h0 : ∀ a o, z.H0 a = some o → z.pt ≠ some a → H a = some o
  tw : ∀ a, z.pt = some a → H a = some (.lst (List.replicate n (.int 0))) ∧ G a = none ∧ z.H0 a ≠ none
  val : ∀ (i : Nat) d, env[i]? = some (some d) → z.own i = false → ∃ v, σ[i]? = some (some v) ∧ Rep z.toCn F v d
  ow : ∀ (i : Nat) d, env[i]? = some (some d) → z.own i = true → ∃ p vs ds, d = .lst ds ∧ σ[i]? = some (some (.ref p)) ∧ G p = some (.lst vs) ∧ F p = none ∧ RepL z.toCn F vs ds
  dis : ∀ (i j : Nat) d e p, i ≠ j → z.own i = true → z.own j = true → env[i]? = some (some d) → env[j]? = some (some e) → σ[i]? = some (some (.ref p)) → σ[j]? ≠ some (some (.ref p))
  len : env.length = σ.length
section
variable {z : Fx} {σ : St} {H F G H' F' G' : Hp} {env : Ev} {n n' : Nat}
theorem ER.refl (e : ER z σ H F G env n) : Step z H F G H F G n := ⟨.rfl, .rfl, e.fg, e.gh, fun _ h => .inl h, fun _ h => .inl h, e.h0, fun _ h => h, e.tw⟩
theorem ER.free0 (e : ER z σ H F G env n) {a : Addr} (h : H a = none) : z.H0 a = none := by
  cases q : z.H0 a with
  | none => rfl
  | some o =>
    by_cases hp : z.pt = some a
    · rw [(e.tw a hp).1] at h; cases h
    · rw [e.h0 a o q hp] at h; cases h
theorem ER.notTown (e : ER z σ H F G env n) {a : Addr} (h : H a = none) : z.pt ≠ some a := fun q => by
  rw [(e.tw a q).1] at h; cases h
theorem ER.step (e : ER z σ H F G env n) (s : Step z H F G H' F' G' n') : ER z σ H' F' G' env n' where
  fg := s.fg
  gh := s.gh
  h0 := s.h0
  tw := s.tw
  val := fun i d h o => by
    obtain ⟨v, a, r⟩ := e.val i d h o
    exact ⟨v, a, r.mono s.ff⟩
  ow := fun i d h o => by
    obtain ⟨p, vs, ds, a, b, c, f, r⟩ := e.ow i d h o
    refine ⟨p, vs, ds, a, b, s.gg _ _ c, ?_, r.mono s.ff⟩
    refine Classical.byContradiction fun q => ?_
    rcases s.nf p q with h | h
    · exact h f
    · rw [e.gh _ _ c] at h; cases h
  dis := e.dis
  len := e.len
/-- a new object, told to F and G -/
theorem Step.newF (s : Step z H F G H' F' G' n') (hd : ∀ a, z.H0 a ≠ none → H' a ≠ none) {p : Addr} {o : HO} (hp : H' p = none) : Step z H F G (upd H' p o) (upd F' p o) (upd G' p o) n' where
  ff := s.ff.trans (Le.grow (s.fg.non (s.gh.non hp)))
  gg := s.gg.trans (Le.grow (s.gh.non hp))
  fg := s.fg.both
  gh := s.gh.both
  nf := fun a h => by
    by_cases e : a = p
    · subst e; exact .inr (Classical.byContradiction fun q => s.dom a q hp)
    · rw [upd_ne e] at h; exact s.nf a h
  ng := fun a h => by
    by_cases e : a = p
    · subst e; exact .inr (Classical.byContradiction fun q => s.dom a q hp)
    · rw [upd_ne e] at h; exact s.ng a h
  h0 := fun a o h q => by
    rw [upd_ne (fun e => by subst e; exact hd a (by rw [h]; simp) hp)]; exact s.h0 a o h q
  dom := fun a h => by
    by_cases e : a = p
    · subst e; rw [upd_same]; simp
    · rw [upd_ne e]; exact s.dom a h
  tw := fun a h => by
    obtain ⟨x, y, w⟩ := s.tw a h
    have e : a ≠ p := fun e => by subst e; rw [x] at hp; cases hp
    rw [upd_ne e, upd_ne e]; exact ⟨x, y, w⟩
/-- a new object, told to neither -/
theorem Step.newH (s : Step z H F G H' F' G' n') (hd : ∀ a, z.H0 a ≠ none → H' a ≠ none) {p : Addr} {o : HO} (hp : H' p = none) : Step z H F G (upd H' p o) F' G' n' where
  ff := s.ff
  gg := s.gg
  fg := s.fg
  gh := s.gh.right (s.gh.non hp)
  nf := s.nf
  ng := s.ng
  h0 := fun a o h q => by
    rw [upd_ne (fun e => by subst e; exact hd a (by rw [h]; simp) hp)]; exact s.h0 a o h q
  dom := fun a h => by
    by_cases e : a = p
    · subst e; rw [upd_same]; simp
    · rw [upd_ne e]; exact s.dom a h
  tw := fun a h => by
    obtain ⟨x, y, w⟩ := s.tw a h
    have e : a ≠ p := fun e => by subst e; rw [x] at hp; cases hp
    rw [upd_ne e]; exact ⟨x, y, w⟩
/-- what H has and F, G have not is told to both, to G alone -/
theorem Step.tellF (s : Step z H F G H' F' G' n') {p : Addr} {o : HO} (hp : H' p = some o) (h : H p = none) (hg : G' p = none) (ht : z.pt ≠ some p) : Step z H F G H' (upd F' p o) (upd G' p o) n' where
  ff := s.ff.trans (Le.grow (s.fg.non hg))
  gg := s.gg.trans (Le.grow hg)
  fg := s.fg.both
  gh := fun a u e => by
    by_cases q : a = p
    · subst q; rw [upd_same] at e; cases e; exact hp
    · rw [upd_ne q] at e; exact s.gh a u e
  nf := fun a q => by
    by_cases e : a = p
    · subst e; exact .inr h
    · rw [upd_ne e] at q; exact s.nf a q
  ng := fun a q => by
    by_cases e : a = p
    · subst e; exact .inr h
    · rw [upd_ne e] at q; exact s.ng a q
  h0 := s.h0
  dom := s.dom
  tw := fun a ha => by
    obtain ⟨x, y, w⟩ := s.tw a ha
    have e : a ≠ p := fun e => ht (e ▸ ha)
    rw [upd_ne e]; exact ⟨x, y, w⟩
theorem Step.tellG (s : Step z H F G H' F' G' n') {p : Addr} {o : HO} (hp : H' p = some o) (h : H p = none) (hg : G' p = none) (ht : z.pt ≠ some p) : Step z H F G H' F' (upd G' p o) n' where
  ff := s.ff
  gg := s.gg.trans (Le.grow hg)
  fg := s.fg.right (s.fg.non hg)
  gh := fun a u e => by
    by_cases q : a = p
    · subst q; rw [upd_same] at e; cases e; exact hp
    · rw [upd_ne q] at e; exact s.gh a u e
  nf := s.nf
  ng := fun a q => by
    by_cases e : a = p
    · subst e; exact .inr h
    · rw [upd_ne e] at q; exact s.ng a q
  h0 := s.h0
  dom := s.dom
  tw := fun a ha => by
    obtain ⟨x, y, w⟩ := s.tw a ha
    have e : a ≠ p := fun e => ht (e ▸ ha)
    rw [upd_ne e]; exact ⟨x, y, w⟩
theorem ER.dom0 (e : ER z σ H F G env n) : ∀ a, z.H0 a ≠ none → H a ≠ none := fun a h q => h (e.free0 q)
end

/-! ### the weakest readings -/
section
variable (X : Cx)
def wE (e : Expr) : TE := fun σ H Q => ∀ (pins : List (Addr × Obj)) (s : Shared), Inv X pins σ H s → wpAny (model X.prog X.w) X.A (eval e X.env) (EP X pins σ Q) X.xe s
def wT (e : Expr) : TT := fun σ H Q => ∀ (pins : List (Addr × Obj)) (s : Shared), Inv X pins σ H s → wpAny (model X.prog X.w) X.A (isTrue e X.env (eval e X.env)) (TP X pins σ Q) X.xe s
def wA (es : List Expr) : TA := fun σ H Q => ∀ (pos : Pos) (pins : List (Addr × Obj)) (s : Shared), Inv X pins σ H s → wpAny (model X.prog X.w) X.A (spliced (backTo pos (starEach es X.env))) (AP X pins σ Q) X.xe s
def wS (st : Stmt) : TS := fun D σ H => ∀ (pins : List (Addr × Obj)) (s : Shared), Inv X pins σ H s → wpAny (model X.prog X.w) X.A (exec st X.env) (SP X pins D) X.xe s
def wSs (st : List Stmt) : TS := fun D σ H => ∀ (pins : List (Addr × Obj)) (s : Shared), Inv X pins σ H s → wpAny (model X.prog X.w) X.A (execs st X.env) (SP X pins D) X.xe s
def wG (tg : Expr) : TG := fun v σ H Q => ∀ (pins : List (Addr × Obj)) (s : Shared) (u : Value), Inv X pins σ H s → RelV v u → wpAny (model X.prog X.w) X.A (assign tg X.env u) (fun _ s' => ∃ σ' H', Inv X pins σ' H' s' ∧ Q σ' H') X.xe s
def wI (tg it : Expr) : TI := fun σ H R => ∀ (pins : List (Addr × Obj)) (s : Shared), Inv X pins σ H s → wpAny (model X.prog X.w) X.A (eval it X.env) (fun v s1 => wpAny (model X.prog X.w) X.A (pyIter v) (PIE X pins σ tg R) X.xe s1) X.xe s
def w2 (f : Value → Value → Sem Value) : R2 := fun x y H Q => ∀ (pins : List (Addr × Obj)) (s : Shared) (σ : St) (v u : Value), Inv X pins σ H s → RelV x v → RelV y u → wpAny (model X.prog X.w) X.A (f v u) (EP X pins σ Q) X.xe s
end
section
variable {X : Cx}
theorem peW (e : Expr) : PE X e (wE X e) := ⟨fun pins s σ H Q I h => h pins s I⟩
theorem ptW (e : Expr) : PT X e (wT X e) := ⟨fun pins s σ H Q I h => h pins s I⟩
theorem paW (e : List Expr) : PA X e (wA X e) := ⟨fun pos pins s σ H Q I h => h pos pins s I⟩
theorem psW (e : Stmt) : PS X e (wS X e) := ⟨fun pins s σ H Q I h => h pins s I⟩
theorem pssW (e : List Stmt) : PSs X e (wSs X e) := ⟨fun pins s σ H Q I h => h pins s I⟩
theorem pgW (e : Expr) : PG X e (wG X e) := ⟨fun pins s σ H v u Q I r h => h pins s u I r⟩
theorem piW (tg e : Expr) : PI X tg e (wI X tg e) := ⟨fun pins s σ H R I h => h pins s I⟩
theorem _root_.L2.PE.w {e : Expr} {t : TE} (h : PE X e t) {σ : St} {H : Hp} {Q : VK} (q : t σ H Q) : wE X e σ H Q := fun pins s I => h.run pins s σ H Q I q
theorem _root_.L2.PT.w {e : Expr} {t : TT} (h : PT X e t) {σ : St} {H : Hp} {Q : Bool → Hp → Prop} (q : t σ H Q) : wT X e σ H Q := fun pins s I => h.run pins s σ H Q I q
theorem _root_.L2.PA.w {e : List Expr} {t : TA} (h : PA X e t) {σ : St} {H : Hp} {Q : List V → Hp → Prop} (q : t σ H Q) : wA X e σ H Q := fun pos pins s I => h.run pos pins s σ H Q I q
theorem _root_.L2.PS.w {e : Stmt} {t : TS} (h : PS X e t) {σ : St} {H : Hp} {D : Ends} (q : t D σ H) : wS X e D σ H := fun pins s I => h.run pins s σ H D I q
theorem _root_.L2.PSs.w {e : List Stmt} {t : TS} (h : PSs X e t) {σ : St} {H : Hp} {D : Ends} (q : t D σ H) : wSs X e D σ H := fun pins s I => h.run pins s σ H D I q
theorem _root_.L2.PG.w {e : Expr} {t : TG} (h : PG X e t) {v : V} {σ : St} {H : Hp} {Q : St → Hp → Prop} (q : t v σ H Q) : wG X e v σ H Q := fun pins s u I r => h.run pins s σ H v u Q I r q
theorem _root_.L2.PI.w {tg e : Expr} {t : TI} (h : PI X tg e t) {σ : St} {H : Hp} {R : It → Hp → Prop} (q : t σ H R) : wI X tg e σ H R := fun pins s I => h.run pins s σ H R I q
end
end L2.Ms

namespace L2.Ms
open PySem PySem.Spec PyProof.Rows Mv

/-! ### levels -/
def lv1 (p : P1) (l : Nat) : Nat := match p with
  | .toL | .toT | .rev => if 1 ≤ l then 2 else 0
  | _ => 2
def lv2 (p : P2) (l m : Nat) : Nat := match p with
  | .add => if 1 ≤ l ∧ 1 ≤ m then 2 else 0
  | .mul | .idx => if 1 ≤ l then 2 else 0
  | _ => 2
mutual
def lev (own : Nat → Bool) : ME → Nat
  | .v i => if own i then 1 else 2
  | .p1 p a => lv1 p (lev own a)
  | .p2 p a b => lv2 p (lev own a) (lev own b)
  | .mt p a b => lv2 p (lev own a) (lev own b)
  | .sl a _ _ => if 1 ≤ lev own a then 2 else 0
  | .and _ b => lev own b
  | .or _ b => lev own b
  | .ite _ a b => min (lev own a) (lev own b)
  | .call _ as => if levA own as then 2 else 0
  | .tup as => if levA own as then 2 else 0
  | .lst as => if levA own as then 2 else 0
  | .lc tg _ _ e => if 2 ≤ lev (fun i => own i && !tg.contains i) e then 2 else 0
  | _ => 2
def levA (own : Nat → Bool) : MEs → Bool
  | .nil => true
  | .cons a as => decide (2 ≤ lev own a) && levA own as
end
def levI (own : Nat → Bool) : MI → Nat
  | .sq a => lev own a
  | .rg _ => 2

/-! ### what is wanted behind an expression -/
def PostE (z : Fx) (W : WX) (σ : St) (H F G : Hp) (lv : Nat) (o : Out D) (Q : VK) : Prop := match o with
  | .ok d n' => ∀ v H' F' G', Step z H F G H' F' G' n' → RepLv z.toCn lv F' G' v d → Q v H'
  | .ex c n' => ∀ H' F' G', Step z H F G H' F' G' n' → W (.ref (He.ga z.K c)) none σ H'
  | .bad => False
/-- a new list, told to nobody yet -/
def PostF (z : Fx) (W : WX) (σ : St) (H F G : Hp) (o : Out D) (Q : VK) : Prop := match o with
  | .ok (.lst ds) n' => ∀ p vs H' F' G', Step z H F G H' F' G' n' → H p = none → H' p = some (.lst vs) → G' p = none → z.pt ≠ some p → RepL z.toCn F' vs ds → Q (.ref p) H'
  | .ok _ _ => False
  | .ex c n' => ∀ H' F' G', Step z H F G H' F' G' n' → W (.ref (He.ga z.K c)) none σ H'
  | .bad => False

section inversions
variable {z : Cn} {lv : Nat} {F G : Hp} {v : V}
theorem Rep.intE {i : Int} (h : Rep z F v (.int i)) : v = .int i := by cases h; rfl
theorem Rep.blE {i : Bool} (h : Rep z F v (.bl i)) : v = .bl i := by cases h; rfl
theorem Rep.strE {i : Str} (h : Rep z F v (.str i)) : v = .str i := by cases h; rfl
theorem Rep.nonE (h : Rep z F v .non) : v = .non := by cases h; rfl
theorem Rep.lstE {ds : List D} (h : Rep z F v (.lst ds)) : ∃ a vs, v = .ref a ∧ F a = some (.lst vs) ∧ RepL z F vs ds := by cases h with | lst e r => exact ⟨_, _, rfl, e, r⟩
theorem Rep.tupE {ds : List D} (h : Rep z F v (.tup ds)) : ∃ a vs, v = .ref a ∧ F a = some (.tup vs) ∧ RepL z F vs ds := by cases h with | tup e r => exact ⟨_, _, rfl, e, r⟩
theorem lvInt (l : Le F G) {i : Int} (h : RepLv z lv F G v (.int i)) : v = .int i := (h.g l).intE
theorem lvBl (l : Le F G) {i : Bool} (h : RepLv z lv F G v (.bl i)) : v = .bl i := (h.g l).blE
theorem lvStr (l : Le F G) {i : Str} (h : RepLv z lv F G v (.str i)) : v = .str i := (h.g l).strE
theorem lvLst (l : Le F G) {ds : List D} (h : RepLv z lv F G v (.lst ds)) : ∃ a vs, v = .ref a ∧ G a = some (.lst vs) ∧ RepL z G vs ds ∧ (1 ≤ lv → RepL z F vs ds) := by
  obtain ⟨a, vs, rfl, e, r⟩ := (h.g l).lstE
  refine ⟨a, vs, rfl, e, r, fun hl => ?_⟩
  obtain ⟨b, us, eq, e', r'⟩ := h.i l hl
  cases eq
  rw [e] at e'
  cases e'
  exact r'
theorem lvTup (l : Le F G) {ds : List D} (h : RepLv z lv F G v (.tup ds)) : ∃ a vs, v = .ref a ∧ G a = some (.tup vs) ∧ RepL z G vs ds ∧ (1 ≤ lv → F a = some (.tup vs) ∧ RepL z F vs ds) := by
  obtain ⟨a, vs, rfl, e, r⟩ := (h.g l).tupE
  refine ⟨a, vs, rfl, e, r, fun hl => ?_⟩
  have q : Rep z F (.ref a) (.tup ds) := h.i l hl
  obtain ⟨b, us, eq, e', r'⟩ := q.tupE
  cases eq
  have := l _ _ e'
  rw [e] at this
  cases this
  exact ⟨e', r'⟩
end inversions

theorem line_eq : line = sizeLine := by rw [sizeLine_eq]; rfl

/-! ### data for == -/
mutual
def toPy : D → PyData
  | .bl b => .bool b
  | .int i => .int i
  | .str x => .str x
  | .lst xs => .list (toPys xs)
  | .tup xs => .tuple (toPys xs)
  | _ => .none
def toPys : List D → List PyData
  | [] => []
  | x :: xs => toPy x :: toPys xs
end
mutual
theorem Rep.dp {K : PySem.W.Frag} {z : Cn} {G H : Hp} (l : Le G H) : ∀ {k : Nat} {d : D} {v : V}, Rep z G v d → shp k d = true → Dp K H v (toPy d)
  | _, _, _, .non, _ => .non
  | _, _, _, .bl b, _ => .bl b
  | _, _, _, .int b, _ => .int b
  | _, _, _, .str b, _ => .str b
  | k + 1, _, _, .lst e r, h => .lst (SqL.of (l _ _ e)) (RepL.dp l r (by simpa [shp] using h))
  | k + 1, _, _, .tup e r, h => .tup (SqT.of (l _ _ e)) (RepL.dp l r (by simpa [shp] using h))
  | 0, _, _, .lst e r, h => by simp [shp] at h
  | 0, _, _, .tup e r, h => by simp [shp] at h
  | _, _, _, .exc _, h => by simp [shp] at h
  | _, _, _, .scr _, h => by simp [shp] at h
  | _, _, _, .town _, h => by simp [shp] at h
theorem RepL.dp {K : PySem.W.Frag} {z : Cn} {G H : Hp} (l : Le G H) : ∀ {k : Nat} {ds : List D} {vs : List V}, RepL z G vs ds → shpAll k ds = true → DpAll K H vs (toPys ds)
  | _, _, _, .nil, _ => .nil
  | _, _, _, .cons a t, h => by
    simp only [shpAll, Bool.and_eq_true] at h
    exact .cons (Rep.dp l a h.1) (RepL.dp l t h.2)
end
mutual
theorem shp_lay : ∀ {k : Nat} {d : D}, shp k d = true → (toPy d).canLay0 = true ∧ (toPy d).depth ≤ k
  | k, .non, _ => by simp [toPy, PyData.canLay0, PyData.depth]
  | k, .bl _, _ => by simp [toPy, PyData.canLay0, PyData.depth]
  | k, .int _, _ => by simp [toPy, PyData.canLay0, PyData.depth]
  | k, .str x, h => by
    simp only [toPy, PyData.canLay0, PyData.depth]
    refine ⟨?_, Nat.zero_le _⟩
    simp only [shp, strGood, List.all_eq_true, decide_eq_true_eq] at h
    simp only [PyData.strOk, Array.all_eq_true_iff_forall_mem, decide_eq_true_eq]
    intro c hc
    have := h c (by simpa using hc)
    omega
  | k + 1, .lst xs, h => by
    have q := shpAll_lay (k := k) (ds := xs) (by simpa [shp] using h)
    simp only [toPy, PyData.canLay0, PyData.depth]
    exact ⟨q.1, by omega⟩
  | k + 1, .tup xs, h => by
    have q := shpAll_lay (k := k) (ds := xs) (by simpa [shp] using h)
    simp only [toPy, PyData.canLay0, PyData.depth]
    exact ⟨q.1, by omega⟩
  | 0, .lst xs, h => by simp [shp] at h
  | 0, .tup xs, h => by simp [shp] at h
  | _, .exc _, h => by simp [shp] at h
  | _, .dic _, h => by simp [shp] at h
  | _, .scr _, h => by simp [shp] at h
  | _, .town, h => by simp [shp] at h
theorem shpAll_lay : ∀ {k : Nat} {ds : List D}, shpAll k ds = true → PyData.canLayAll0 (toPys ds) = true ∧ PyData.depthAll (toPys ds) ≤ k
  | k, [], _ => by simp [toPys, PyData.canLayAll0, PyData.depthAll]
  | k, d :: ds, h => by
    simp only [shpAll, Bool.and_eq_true] at h
    have a := shp_lay h.1
    have b := shpAll_lay h.2
    simp only [toPys, PyData.canLayAll0, PyData.depthAll, Bool.and_eq_true]
    exact ⟨⟨a.1, b.1⟩, by omega⟩
end
theorem shp_shaped {k : Nat} {d : D} (hk : k ≤ 64) (h : shp k d = true) : SeqAt.shaped (toPy d) = true := by
  have q := shp_lay h
  simp only [SeqAt.shaped, Bool.and_eq_true, decide_eq_true_eq]
  exact ⟨q.1, by omega⟩
theorem shpAll_shaped {k : Nat} {ds : List D} (hk : k < 64) (h : shpAll k ds = true) : SeqAt.shaped (.list (toPys ds)) = true := by
  have q := shpAll_lay h
  have e1 : (PyData.list (toPys ds)).canLay0 = PyData.canLayAll0 (toPys ds) := by simp only [PyData.canLay0]
  have e2 : (PyData.list (toPys ds)).depth = PyData.depthAll (toPys ds) + 1 := by simp only [PyData.depth]
  simp only [SeqAt.shaped, Bool.and_eq_true, decide_eq_true_eq]
  rw [e1, e2]
  exact ⟨q.1, by omega⟩
mutual
theorem eqv_py : ∀ {k m : Nat} {d e : D}, shp k d = true → shp m e = true → PyData.eqv (toPy d) (toPy e) = eqv d e
  | k, m, d, e, h1, h2 => by
    cases d with
    | lst xs =>
      cases e with
      | lst ys =>
        cases k with
        | zero => simp [shp] at h1
        | succ k =>
          cases m with
          | zero => simp [shp] at h2
          | succ m =>
            simp only [toPy, PyData.eqv, eqv]
            exact eqvAll_py (by simpa [shp] using h1) (by simpa [shp] using h2)
      | _ => first | (simp [shp] at h2; done) | simp [toPy, PyData.eqv, eqv]
    | tup xs =>
      cases e with
      | tup ys =>
        cases k with
        | zero => simp [shp] at h1
        | succ k =>
          cases m with
          | zero => simp [shp] at h2
          | succ m =>
            simp only [toPy, PyData.eqv, eqv]
            exact eqvAll_py (by simpa [shp] using h1) (by simpa [shp] using h2)
      | _ => first | (simp [shp] at h2; done) | simp [toPy, PyData.eqv, eqv]
    | _ => cases e <;> first | (simp [shp] at h1; done) | (simp [shp] at h2; done) | simp [toPy, PyData.eqv, eqv]
theorem eqvAll_py : ∀ {k m : Nat} {ds es : List D}, shpAll k ds = true → shpAll m es = true → PyData.eqvAll (toPys ds) (toPys es) = eqvAll ds es
  | k, m, [], [], h1, h2 => by simp [toPys, PyData.eqvAll, eqvAll]
  | k, m, [], _ :: _, h1, h2 => by simp [toPys, PyData.eqvAll, eqvAll]
  | k, m, _ :: _, [], h1, h2 => by simp [toPys, PyData.eqvAll, eqvAll]
  | k, m, d :: ds, e :: es, h1, h2 => by
    simp only [shpAll, Bool.and_eq_true] at h1 h2
    simp only [toPys, PyData.eqvAll, eqvAll]
    rw [eqv_py h1.1 h2.1, eqvAll_py h1.2 h2.2]
end
theorem toPys_map : ∀ ds : List D, toPys ds = ds.map toPy
  | [] => rfl
  | d :: ds => by simp [toPys, toPys_map ds]
theorem shpAll_mem {k : Nat} : ∀ {ds : List D}, shpAll k ds = true → ∀ d ∈ ds, shp k d = true
  | [], _, d, h => by cases h
  | e :: ds, h, d, hd => by
    simp only [shpAll, Bool.and_eq_true] at h
    rcases List.mem_cons.mp hd with rfl | hd
    · exact h.1
    · exact shpAll_mem h.2 d hd
theorem any_py {k m : Nat} {d : D} (hd : shp m d = true) : ∀ {ds : List D}, shpAll k ds = true → (toPys ds).any (fun y => PyData.eqv y (toPy d)) = ds.any fun y => eqv y d
  | [], _ => rfl
  | e :: ds, h => by
    simp only [shpAll, Bool.and_eq_true] at h
    simp only [toPys, List.any_cons, eqv_py h.1 hd, any_py hd h.2]
end L2.Ms

namespace L2.Ms
open PySem PySem.Spec PyProof.Rows Mv

theorem _root_.L2.OpR.w {X : Cx} {f : Value → Value → Sem Value} {r : R2} (h : OpR X f r) {x y : V} {H : Hp} {Q : VK} (q : r x y H Q) : w2 X f x y H Q := fun pins s σ v u I r1 r2 => h pins s σ H x y v u Q I r1 r2 q
theorem w2R {X : Cx} {f : Value → Value → Sem Value} : OpR X f (w2 X f) := fun pins s σ H x y v u Q I r1 r2 h => h pins s σ v u I r1 r2

section
variable {z : Fx} {σ : St} {H F G : Hp} {env : Ev} {n : Nat} {Q : VK}
theorem fin_lst {lv : Nat} {p : Addr} {vs : List V} {ds : List D} (er : ER z σ H F G env n) (hp : H p = none) (rg : RepL z.toCn G vs ds) (rf : 1 ≤ lv → RepL z.toCn F vs ds)
    (hq : ∀ v H' F' G', Step z H F G H' F' G' n → RepLv z.toCn lv F' G' v (.lst ds) → Q v H') : Q (.ref p) (upd H p (.lst vs)) := by
  have st := er.refl.newF er.dom0 (o := .lst vs) hp
  refine hq _ _ _ _ st ?_
  have gp := er.gh.non hp
  have fp := er.fg.non gp
  match lv, rf with
  | 0, _ => exact .lst upd_same (rg.mono (Le.grow gp))
  | k + 1, rf => exact Rep.lv st.fg _ (.lst upd_same ((rf (by omega)).mono (Le.grow fp)))
theorem fin_tup {lv : Nat} {p : Addr} {vs : List V} {ds : List D} (er : ER z σ H F G env n) (hp : H p = none) (rg : RepL z.toCn G vs ds) (rf : 1 ≤ lv → RepL z.toCn F vs ds)
    (hq : ∀ v H' F' G', Step z H F G H' F' G' n → RepLv z.toCn lv F' G' v (.tup ds) → Q v H') : Q (.ref p) (upd H p (.tup vs)) := by
  have st := er.refl.newF er.dom0 (o := .tup vs) hp
  refine hq _ _ _ _ st ?_
  have gp := er.gh.non hp
  have fp := er.fg.non gp
  match lv, rf with
  | 0, _ => exact .tup upd_same (rg.mono (Le.grow gp))
  | k + 1, rf => exact Rep.lv st.fg _ (.tup upd_same ((rf (by omega)).mono (Le.grow fp)))
theorem fin_same {lv : Nat} {v : V} {d : D} (er : ER z σ H F G env n) (r : Rep z.toCn F v d)
    (hq : ∀ v H' F' G', Step z H F G H' F' G' n → RepLv z.toCn lv F' G' v d → Q v H') : Q v H := hq _ _ _ _ er.refl (Rep.lv er.fg _ r)
/-- a new list, told to nobody -/
theorem fin_F {p : Addr} {vs : List V} {ds : List D} (er : ER z σ H F G env n) (hp : H p = none) (rf : RepL z.toCn F vs ds)
    (hq : ∀ p vs H' F' G', Step z H F G H' F' G' n → H p = none → H' p = some (.lst vs) → G' p = none → z.pt ≠ some p → RepL z.toCn F' vs ds → Q (.ref p) H') : Q (.ref p) (upd H p (.lst vs)) :=
  hq p vs _ F G (er.refl.newH er.dom0 hp) hp upd_same (er.gh.non hp) (er.notTown hp) rf
end

section
variable {X : Cx} {z : Fx}
/-- what is shown of a two-place piece -/
def Pr2 (X : Cx) (z : Fx) (p : P2) (f : Value → Value → Sem Value) : Prop := ∀ {σ : St} {H F G : Hp} {env : Ev} {n : Nat} {x y : V} {d e r : D} {l m : Nat} {Q : VK},
  ER z σ H F G env n → RepLv z.toCn l F G x d → RepLv z.toCn m F G y e → sem2 p n d e = some r →
  (∀ v H' F' G', Step z H F G H' F' G' n → RepLv z.toCn (lv2 p l m) F' G' v r → Q v H') → w2 X f x y H Q

theorem pr_add : Pr2 X z .add (binaryOp .Add) := by
  intro σ H F G env n x y d e r l m Q er hx hy hs hq
  unfold sem2 at hs
  split at hs <;> try (first | contradiction | (rename_i h1 h2 h3; cases h1; done))
  · cases hs
    exact op_add.w ⟨_, _, lvInt er.fg hx, lvInt er.fg hy, fin_same er (.int _) hq⟩
  · split at hs <;> cases hs
    rename_i hz
    exact op_add_str.w ⟨_, _, lvStr er.fg hx, lvStr er.fg hy, by rw [← line_eq]; exact hz, fin_same er (.str _) hq⟩
  · split at hs <;> cases hs
    rename_i hz
    obtain ⟨a, vs, rfl, ea, ra, fa⟩ := lvLst er.fg hx
    obtain ⟨b, us, rfl, eb, rb, fb⟩ := lvLst er.fg hy
    refine op_cat.w ⟨a, b, vs, us, rfl, rfl, er.gh _ _ ea, er.gh _ _ eb, by rw [ra.length, rb.length, ← line_eq]; exact hz, fun p hp => fin_lst er hp (ra.append rb) (fun hl => ?_) hq⟩
    have : 1 ≤ l ∧ 1 ≤ m := by
      refine Classical.byContradiction fun q => ?_
      simp [lv2, q] at hl
    exact (fa this.1).append (fb this.2)
  · split at hs <;> cases hs
    rename_i hz
    obtain ⟨a, vs, rfl, ea, ra, fa⟩ := lvTup er.fg hx
    obtain ⟨b, us, rfl, eb, rb, fb⟩ := lvTup er.fg hy
    have two : ∀ {q : Nat}, 1 ≤ lv2 .add l m → 1 ≤ l ∧ 1 ≤ m := fun hl => by
      refine Classical.byContradiction fun q => ?_
      simp [lv2, q] at hl
    refine op_catA.w ⟨a, b, vs, us, rfl, rfl, SqT.of (er.gh _ _ ea), SqT.of (er.gh _ _ eb), by rw [ra.length, rb.length, ← line_eq]; exact hz, fun e0 => ?_, fun _ e0 => ?_, fun _ _ p hp => fin_tup er hp (ra.append rb) (fun hl => ?_) hq⟩
    · subst e0
      cases ra
      refine hq _ _ _ _ er.refl ?_
      simp only [List.nil_append]
      match h : lv2 .add l m with
      | 0 => exact Rep.tup eb rb
      | k + 1 =>
        have t := two (q := 0) (by rw [h]; omega)
        exact Rep.lv er.fg _ (.tup (fb t.2).1 (fb t.2).2)
    · subst e0
      cases rb
      refine hq _ _ _ _ er.refl ?_
      simp only [List.append_nil]
      match h : lv2 .add l m with
      | 0 => exact Rep.tup ea ra
      | k + 1 =>
        have t := two (q := 0) (by rw [h]; omega)
        exact Rep.lv er.fg _ (.tup (fa t.1).1 (fa t.1).2)
    · have t := two (q := 0) hl
      exact (fa t.1).2.append (fb t.2).2

theorem pr_sub : Pr2 X z .sub (binaryOp .Sub) := by
  intro σ H F G env n x y d e r l m Q er hx hy hs hq
  unfold sem2 at hs
  split at hs <;> try (first | contradiction | (rename_i h1 h2 h3; cases h1; done))
  cases hs
  exact op_sub.w ⟨_, _, lvInt er.fg hx, lvInt er.fg hy, fin_same er (.int _) hq⟩
theorem pr_mod : Pr2 X z .mod (binaryOp .Mod) := by
  intro σ H F G env n x y d e r l m Q er hx hy hs hq
  unfold sem2 at hs
  split at hs <;> try (first | contradiction | (rename_i h1 h2 h3; cases h1; done))
  split at hs <;> cases hs
  rename_i hz
  exact op_mod.w ⟨_, _, lvInt er.fg hx, lvInt er.fg hy, hz, fin_same er (.int _) hq⟩
theorem pr_fdiv : Pr2 X z .fdiv (binaryOp .FloorDiv) := by
  intro σ H F G env n x y d e r l m Q er hx hy hs hq
  unfold sem2 at hs
  split at hs <;> try (first | contradiction | (rename_i h1 h2 h3; cases h1; done))
  split at hs <;> cases hs
  rename_i hz
  exact op_fdiv.w ⟨_, _, lvInt er.fg hx, lvInt er.fg hy, hz, fin_same er (.int _) hq⟩
theorem pr_pow : Pr2 X z .pow (binaryOp .Pow) := by
  intro σ H F G env n x y d e r l m Q er hx hy hs hq
  unfold sem2 at hs
  split at hs <;> try (first | contradiction | (rename_i h1 h2 h3; cases h1; done))
  split at hs <;> cases hs
  rename_i hz
  exact op_pow.w ⟨_, _, lvInt er.fg hx, lvInt er.fg hy, hz, fin_same er (.int _) hq⟩
theorem pr_mul : Pr2 X z .mul (binaryOp .Mult) := by
  intro σ H F G env n x y d e r l m Q er hx hy hs hq
  unfold sem2 at hs
  split at hs <;> try (first | contradiction | (rename_i h1 h2 h3; cases h1; done))
  · split at hs <;> cases hs
    rename_i hz
    exact op_mul.w ⟨_, _, lvInt er.fg hx, lvInt er.fg hy, hz, fin_same er (.int _) hq⟩
  · split at hs <;> cases hs
    rename_i hz
    obtain ⟨a, vs, rfl, ea, ra, fa⟩ := lvLst er.fg hx
    refine op_rep.w ⟨a, _, vs, rfl, lvInt er.fg hy, er.gh _ _ ea, hz.2.1, hz.1, by rw [ra.length, ← line_eq]; exact hz.2.2, fun p hp => fin_lst er hp (ra.rep _) (fun hl => (fa ?_).rep _) hq⟩
    refine Classical.byContradiction fun q => ?_
    simp [lv2, q] at hl
  · split at hs <;> cases hs
    rename_i hz
    obtain ⟨a, vs, rfl, ea, ra, fa⟩ := lvTup er.fg hx
    refine op_repT.w ⟨a, _, vs, rfl, lvInt er.fg hy, SqT.of (er.gh _ _ ea), fun e0 => hz.1 ?_, hz.2.1, hz.2.2.1, by rw [ra.length]; exact hz.2.2.2, fun p hp => fin_tup er hp (ra.rep _) (fun hl => (fa ?_).2.rep _) hq⟩
    · subst e0; cases ra; rfl
    · refine Classical.byContradiction fun q => ?_
      simp [lv2, q] at hl
theorem pr_eq (hu : X.A.units + 64 < cLine) : Pr2 X z .eq (compareOp .Eq) := by
  intro σ H F G env n x y d e r l m Q er hx hy hs hq
  have h : isEq d e = some (eqv d e) ∧ shp deep d = true ∧ shp deep e = true ∧ r = .bl (eqv d e) := by
    have hs' : (isEq d e).map D.bl = some r := by cases d <;> cases e <;> exact hs
    unfold isEq at hs' ⊢
    split at hs'
    · rename_i hc
      simp only [Bool.and_eq_true] at hc
      simp only [Option.map_some, Option.some.injEq] at hs'
      exact ⟨by simp [hc], hc.1, hc.2, hs'.symm⟩
    · cases hs'
  obtain ⟨_, h1, h2, rfl⟩ := h
  refine (op_eqD hu).w ⟨toPy d, toPy e, (hx.g er.fg).dp er.gh h1, (hy.g er.fg).dp er.gh h2, shp_shaped (by decide) h1, shp_shaped (by decide) h2, ?_⟩
  rw [eqv_py h1 h2]
  exact fin_same er (.bl _) hq
theorem pr_ne (hu : X.A.units + 64 < cLine) : Pr2 X z .ne (compareOp .NotEq) := by
  intro σ H F G env n x y d e r l m Q er hx hy hs hq
  have h : shp deep d = true ∧ shp deep e = true ∧ r = .bl (!eqv d e) := by
    have hs' : (isEq d e).map (fun b => D.bl (!b)) = some r := by cases d <;> cases e <;> exact hs
    unfold isEq at hs'
    split at hs'
    · rename_i hc
      simp only [Bool.and_eq_true] at hc
      simp only [Option.map_some, Option.some.injEq] at hs'
      exact ⟨hc.1, hc.2, hs'.symm⟩
    · cases hs'
  obtain ⟨h1, h2, rfl⟩ := h
  refine (op_neD hu).w ⟨toPy d, toPy e, (hx.g er.fg).dp er.gh h1, (hy.g er.fg).dp er.gh h2, shp_shaped (by decide) h1, shp_shaped (by decide) h2, ?_⟩
  rw [eqv_py h1 h2]
  exact fin_same er (.bl _) hq
theorem pr_lt : Pr2 X z .lt (compareOp .Lt) := by
  intro σ H F G env n x y d e r l m Q er hx hy hs hq
  unfold sem2 at hs
  split at hs <;> try (first | contradiction | (rename_i h1 h2 h3; cases h1; done))
  · cases hs
    exact op_lt.w ⟨_, _, lvInt er.fg hx, lvInt er.fg hy, fin_same er (.bl _) hq⟩
  · cases hs
    exact op_lt_str.w ⟨_, _, lvStr er.fg hx, lvStr er.fg hy, fin_same er (.bl _) hq⟩
theorem pr_le : Pr2 X z .le (compareOp .LtE) := by
  intro σ H F G env n x y d e r l m Q er hx hy hs hq
  unfold sem2 at hs
  split at hs <;> try (first | contradiction | (rename_i h1 h2 h3; cases h1; done))
  cases hs
  exact op_le.w ⟨_, _, lvInt er.fg hx, lvInt er.fg hy, fin_same er (.bl _) hq⟩
theorem pr_gt : Pr2 X z .gt (compareOp .Gt) := by
  intro σ H F G env n x y d e r l m Q er hx hy hs hq
  unfold sem2 at hs
  split at hs <;> try (first | contradiction | (rename_i h1 h2 h3; cases h1; done))
  cases hs
  exact op_gt.w ⟨_, _, lvInt er.fg hx, lvInt er.fg hy, fin_same er (.bl _) hq⟩
theorem pr_ge : Pr2 X z .ge (compareOp .GtE) := by
  intro σ H F G env n x y d e r l m Q er hx hy hs hq
  unfold sem2 at hs
  split at hs <;> try (first | contradiction | (rename_i h1 h2 h3; cases h1; done))
  cases hs
  exact op_ge.w ⟨_, _, lvInt er.fg hx, lvInt er.fg hy, fin_same er (.bl _) hq⟩
theorem repL_flat {zc : Cn} {G : Hp} : ∀ {vs : List V} {ds : List D}, RepL zc G vs ds → ds.all flat = true → vs.all flatV = true
  | _, _, .nil, _ => rfl
  | _, _, .cons a t, h => by
    simp only [List.all_cons, Bool.and_eq_true] at h ⊢
    refine ⟨?_, repL_flat t h.2⟩
    cases a <;> first | rfl | (simp [flat] at h)
theorem rep_flat {zc : Cn} {G : Hp} {v : V} {d : D} (a : Rep zc G v d) (h : flat d = true) : flatV v = true := by
  cases a <;> first | rfl | (simp [flat] at h)
theorem eqV_flat {zc : Cn} {G : Hp} {v w : V} {d e : D} (a : Rep zc G v d) (b : Rep zc G w e) (h : flat d = true) (k : flat e = true) : eqV v w = eqv d e := by
  cases a <;> first | (simp [flat] at h; done) | skip
  all_goals (cases b <;> first | (simp [flat] at k; done) | skip)
  all_goals simp [eqV, eqv]
theorem inV_flat {zc : Cn} {G : Hp} {w : V} {e : D} (b : Rep zc G w e) (k : flat e = true) : ∀ {vs : List V} {ds : List D}, RepL zc G vs ds → ds.all flat = true → inV w vs = ds.any fun y => eqv y e
  | _, _, .nil, _ => rfl
  | _, _, .cons a t, h => by
    simp only [List.all_cons, Bool.and_eq_true] at h
    have := inV_flat b k t h.2
    simp only [inV] at this
    simp only [inV, List.any_cons, eqV_flat a b h.1 k, this]
theorem one_sign {x : Str} {c : Nat} (h : x.cps.toList = [c]) : x = ⟨#[c]⟩ := by
  obtain ⟨⟨l⟩⟩ := x
  have h' : l = [c] := h
  rw [h']
theorem pr_in (hu : X.A.units + 65 < cLine) : Pr2 X z .in_ (compareOp .In) := by
  intro σ H F G env n x y d e r l m Q er hx hy hs hq
  unfold sem2 at hs
  split at hs <;> try (first | contradiction | (rename_i h1 h2 h3; cases h1; done))
  · split at hs <;> cases hs
    rename_i hc
    simp only [Bool.and_eq_true] at hc
    have hl : shp (deep + 1) (.lst (by assumption)) = true := by simpa [shp] using hc.2
    refine (op_inD hu).w ⟨toPy _, toPys _, (hx.g er.fg).dp er.gh hc.1, by simpa [toPy] using (hy.g er.fg).dp er.gh hl, shp_shaped (by decide) hc.1, shpAll_shaped (by decide) hc.2, ?_⟩
    rw [any_py hc.1 hc.2]
    exact fin_same er (.bl _) hq
  · split at hs <;> cases hs
    rename_i hc
    simp only [Bool.and_eq_true] at hc
    obtain ⟨b, us, rfl, eb, rb, _⟩ := lvTup er.fg hy
    refine op_in_seq.w ⟨b, us, rfl, .inr (SqT.of (er.gh _ _ eb)), rep_flat (hx.g er.fg) hc.1, repL_flat rb hc.2, ?_⟩
    have := inV_flat (hx.g er.fg) hc.1 rb hc.2
    simp only [Bool.false_eq_true, if_false, this]
    exact fin_same er (.bl _) hq
  · split at hs <;> cases hs
    rename_i c hc
    have e := one_sign hc
    subst e
    exact op_in_sign.w ⟨c, _, lvStr er.fg hx, lvStr er.fg hy, fin_same er (.bl _) hq⟩
theorem pr_nin (hu : X.A.units + 65 < cLine) : Pr2 X z .nin (compareOp .NotIn) := by
  intro σ H F G env n x y d e r l m Q er hx hy hs hq
  unfold sem2 at hs
  split at hs <;> try (first | contradiction | (rename_i h1 h2 h3; cases h1; done))
  · split at hs <;> cases hs
    rename_i hc
    simp only [Bool.and_eq_true] at hc
    have hl : shp (deep + 1) (.lst (by assumption)) = true := by simpa [shp] using hc.2
    refine (op_notInD hu).w ⟨toPy _, toPys _, (hx.g er.fg).dp er.gh hc.1, by simpa [toPy] using (hy.g er.fg).dp er.gh hl, shp_shaped (by decide) hc.1, shpAll_shaped (by decide) hc.2, ?_⟩
    rw [any_py hc.1 hc.2]
    exact fin_same er (.bl _) hq
  · split at hs <;> cases hs
    rename_i hc
    simp only [Bool.and_eq_true] at hc
    obtain ⟨b, us, rfl, eb, rb, _⟩ := lvTup er.fg hy
    refine op_notIn_seq.w ⟨b, us, rfl, .inr (SqT.of (er.gh _ _ eb)), rep_flat (hx.g er.fg) hc.1, repL_flat rb hc.2, ?_⟩
    have := inV_flat (hx.g er.fg) hc.1 rb hc.2
    simp only [if_true, this]
    exact fin_same er (.bl _) hq
  · split at hs <;> cases hs
    rename_i c hc
    have e := one_sign hc
    subst e
    exact op_notIn_sign.w ⟨c, _, lvStr er.fg hx, lvStr er.fg hy, fin_same er (.bl _) hq⟩
end
end L2.Ms

namespace L2.Ms
open PySem PySem.Spec PyProof.Rows Mv

def wC (X : Cx) (f : Value) : List V → Hp → VK → Prop := fun vs H Q => ∀ (pins : List (Addr × Obj)) (s : Shared) (σ : St) (us : List Value), Inv X pins σ H s → Vals vs us → wpAny (model X.prog X.w) X.A (call f us) (EP X pins σ Q) X.xe s
theorem wCR {X : Cx} {f : Value} : CallR X f (wC X f) := fun pins s σ H xs us Q I r h => h pins s σ us I r
theorem _root_.L2.CallR.w {X : Cx} {f : Value} {r : List V → Hp → VK → Prop} (h : CallR X f r) {xs : List V} {H : Hp} {Q : VK} (q : r xs H Q) : wC X f xs H Q := fun pins s σ us I v => h pins s σ H xs us Q I v q
def wM (X : Cx) (id : String) : V → List V → Hp → VK → Prop := fun x vs H Q => ∀ (pins : List (Addr × Obj)) (s : Shared) (σ : St) (v : Value) (us : List Value), Inv X pins σ H s → RelV x v → Vals vs us → wpAny (model X.prog X.w) X.A (call (.builtin id) (v :: us)) (EP X pins σ Q) X.xe s
theorem wMR {X : Cx} {id : String} : MtR X id (wM X id) := fun pins s σ H x xs v us Q I r1 r h => h pins s σ v us I r1 r
theorem _root_.L2.MtR.w {X : Cx} {id : String} {r : V → List V → Hp → VK → Prop} (h : MtR X id r) {x : V} {xs : List V} {H : Hp} {Q : VK} (q : r x xs H Q) : wM X id x xs H Q := fun pins s σ v us I r1 r => h pins s σ H x xs v us Q I r1 r q

section
variable {X : Cx} {z : Fx} {S : Sub}
/-- what is shown of a one-place piece that is a call -/
def Pr1 (X : Cx) (z : Fx) (S : Sub) (p : P1) (f : Value) (more : List V) : Prop := ∀ {σ : St} {H F G : Hp} {env : Ev} {n : Nat} {x : V} {d r : D} {l : Nat} {Q : VK},
  ER z σ H F G env n → RepLv z.toCn l F G x d → sem1 S p n d = some r →
  (∀ v H' F' G', Step z H F G H' F' G' n → RepLv z.toCn (lv1 p l) F' G' v r → Q v H') → wC X f (x :: more) H Q

theorem p_len (hK : X.K = z.K) : Pr1 X z S .len (.builtin "len") [] := by
  intro σ H F G env n x d r l Q er hx hs hq
  unfold sem1 at hs
  split at hs <;> try (first | contradiction | (rename_i h1 h2; cases h1; done))
  · cases hs
    obtain ⟨a, vs, rfl, ea, ra, fa⟩ := lvLst er.fg hx
    refine call_len_seq.w ⟨a, vs, rfl, .inl (SqL.of (er.gh _ _ ea)), ?_⟩
    rw [ra.length]
    exact fin_same er (.int _) hq
  · cases hs
    obtain ⟨a, vs, rfl, ea, ra, fa⟩ := lvTup er.fg hx
    refine call_len_seq.w ⟨a, vs, rfl, .inr (SqT.of (er.gh _ _ ea)), ?_⟩
    rw [ra.length]
    exact fin_same er (.int _) hq
  · split at hs <;> cases hs
    rename_i hz
    have e := lvStr er.fg hx
    subst e
    exact call_len_str.w ⟨_, rfl, by rw [← line_eq]; exact hz, fin_same er (.int _) hq⟩
  · cases hs
    have q : Rep z.toCn G x (.scr _) := hx.g er.fg
    cases q with
    | scr e =>
      refine call_len.w ⟨_, _, rfl, .inl ⟨_, by rw [hK]; exact sqL_mono er.gh e, rfl⟩, ?_⟩
      rw [List.length_map]
      exact fin_same er (.int _) hq
  · cases hs
    have q : Rep z.toCn G x .town := hx.g er.fg
    cases q with
    | town e =>
      refine call_len_seq.w ⟨_, _, rfl, .inl (SqL.of (er.tw _ e).1), ?_⟩
      rw [List.length_replicate]
      exact fin_same er (.int _) hq
theorem bools_map : ∀ {ds : List D} {bs : List Bool}, bools ds = some bs → ds = bs.map D.bl
  | [], bs, h => by simp [bools] at h; subst h; rfl
  | d :: ds, bs, h => by
    cases d <;> simp only [bools, Option.map_eq_some_iff, reduceCtorEq] at h
    obtain ⟨cs, h1, rfl⟩ := h
    rw [bools_map h1]; rfl
theorem intsOf_map : ∀ {ds : List D} {ns : List Int}, intsOf ds = some ns → ds = ns.map D.int
  | [], bs, h => by simp [intsOf] at h; subst h; rfl
  | d :: ds, bs, h => by
    cases d <;> simp only [intsOf, Option.map_eq_some_iff, reduceCtorEq] at h
    obtain ⟨cs, h1, rfl⟩ := h
    rw [intsOf_map h1]; rfl
theorem RepL.blsV {z : Cn} {F : Hp} : ∀ {vs : List V} {ns : List Bool}, RepL z F vs (ns.map D.bl) → vs = ns.map V.bl
  | _, [], h => by cases h; rfl
  | _, n :: r, h => by
    cases h with
    | cons a t => cases a; rw [RepL.blsV t]; rfl
theorem p_all (hc : X.calm = true) : Pr1 X z S .all_ (.builtin "all") [] := by
  intro σ H F G env n x d r l Q er hx hs hq
  unfold sem1 at hs
  split at hs <;> try (first | contradiction | (rename_i h1 h2; cases h1; done))
  simp only [Option.map_eq_some_iff] at hs
  obtain ⟨bs, h1, rfl⟩ := hs
  have e := bools_map h1
  subst e
  obtain ⟨a, vs, rfl, ea, ra, fa⟩ := lvLst er.fg hx
  have e := ra.blsV
  subst e
  exact (cr_all hc).w ⟨a, bs, rfl, SqL.of (er.gh _ _ ea), fin_same er (.bl _) hq⟩
theorem p_any (hc : X.calm = true) : Pr1 X z S .any_ (.builtin "any") [] := by
  intro σ H F G env n x d r l Q er hx hs hq
  unfold sem1 at hs
  split at hs <;> try (first | contradiction | (rename_i h1 h2; cases h1; done))
  simp only [Option.map_eq_some_iff] at hs
  obtain ⟨bs, h1, rfl⟩ := hs
  have e := bools_map h1
  subst e
  obtain ⟨a, vs, rfl, ea, ra, fa⟩ := lvLst er.fg hx
  have e := ra.blsV
  subst e
  exact (cr_any hc).w ⟨a, bs, rfl, SqL.of (er.gh _ _ ea), fin_same er (.bl _) hq⟩
theorem p_sum (hc : X.calm = true) : Pr1 X z S .sum_ (.builtin "sum") [] := by
  intro σ H F G env n x d r l Q er hx hs hq
  unfold sem1 at hs
  split at hs <;> try (first | contradiction | (rename_i h1 h2; cases h1; done))
  simp only [Option.map_eq_some_iff] at hs
  obtain ⟨bs, h1, rfl⟩ := hs
  have e := intsOf_map h1
  subst e
  obtain ⟨a, vs, rfl, ea, ra, fa⟩ := lvLst er.fg hx
  have e := ra.intsV
  subst e
  exact (cr_sum hc).w ⟨a, bs, rfl, SqL.of (er.gh _ _ ea), fin_same er (.int _) hq⟩
/-! sorting -/
theorem ins1_perm {α : Type} (le : α → α → Bool) (a : α) : ∀ l : List α, (ins1 le a l).Perm (a :: l)
  | [] => .rfl
  | b :: r => by
    unfold ins1
    split
    · exact .rfl
    · exact ((ins1_perm le a r).cons b).trans (List.Perm.swap a b r)
theorem isort_perm {α : Type} (le : α → α → Bool) : ∀ l : List α, (isort le l).Perm l
  | [] => .rfl
  | a :: r => (ins1_perm le a _).trans ((isort_perm le r).cons a)
theorem ins1_sorted (a : Int) : ∀ l : List Int, l.Pairwise (· ≤ ·) → (ins1 (fun a b => decide (a ≤ b)) a l).Pairwise (· ≤ ·)
  | [], _ => by simp [ins1]
  | b :: r, h => by
    unfold ins1
    split
    · rename_i hab
      have hab : a ≤ b := of_decide_eq_true hab
      refine List.pairwise_cons.mpr ⟨fun c hc => ?_, h⟩
      rcases List.mem_cons.mp hc with rfl | hc
      · exact hab
      · exact Int.le_trans hab ((List.pairwise_cons.mp h).1 c hc)
    · rename_i hab
      have hab : ¬ a ≤ b := of_decide_eq_false (by simpa using hab)
      refine List.pairwise_cons.mpr ⟨fun c hc => ?_, ins1_sorted a r (List.pairwise_cons.mp h).2⟩
      rcases List.mem_cons.mp ((ins1_perm _ a r).mem_iff.mp hc) with rfl | hc
      · omega
      · exact (List.pairwise_cons.mp h).1 c hc
theorem sortI_sorted : ∀ l : List Int, (sortI l).Pairwise (· ≤ ·)
  | [] => .nil
  | a :: r => ins1_sorted a _ (sortI_sorted r)
theorem sortI_perm (l : List Int) : (sortI l).Perm l := isort_perm _ l
theorem sorted_unique : ∀ {l m : List Int}, l.Perm m → l.Pairwise (· ≤ ·) → m.Pairwise (· ≤ ·) → l = m
  | [], m, p, _, _ => p.nil_eq
  | a :: l, m, p, h1, h2 => by
    cases m with
    | nil => exact absurd p.length_eq (by simp)
    | cons b m =>
      have ha : a ∈ b :: m := p.mem_iff.mp List.mem_cons_self
      have hb : b ∈ a :: l := p.mem_iff.mpr List.mem_cons_self
      have e : a = b := by
        rcases List.mem_cons.mp ha with e | ha
        · exact e
        · rcases List.mem_cons.mp hb with e | hb
          · exact e.symm
          · exact Int.le_antisymm ((List.pairwise_cons.mp h1).1 b hb) ((List.pairwise_cons.mp h2).1 a ha)
      subst e
      rw [sorted_unique p.cons_inv (List.pairwise_cons.mp h1).2 (List.pairwise_cons.mp h2).2]
theorem p_srt : Pr1 X z S .srt (.builtin "sorted") [] := by
  intro σ H F G env n x d r l Q er hx hs hq
  unfold sem1 at hs
  split at hs <;> try (first | contradiction | (rename_i h1 h2; cases h1; done))
  simp only [Option.map_eq_some_iff] at hs
  obtain ⟨ns, h1, rfl⟩ := hs
  have e := intsOf_map h1
  subst e
  obtain ⟨a, vs, rfl, ea, ra, fa⟩ := lvLst er.fg hx
  have e := ra.intsV
  subst e
  refine cr_sortedI.w ⟨a, ns, rfl, SqL.of (er.gh _ _ ea), fun ns' p hp hs hn => ?_⟩
  have e : ns' = sortI ns := sorted_unique (hp.trans (sortI_perm ns).symm) hs (sortI_sorted ns)
  subst e
  exact fin_lst er hn (repL_ints _) (fun _ => repL_ints _) hq
theorem lv_one {l : Nat} (h : 1 ≤ (if 1 ≤ l then 2 else 0)) : 1 ≤ l := by
  refine Classical.byContradiction fun q => ?_
  rw [if_neg q] at h
  omega
theorem cr_listStr (hc : X.calm = true) : CallR X (.type "list") (fun xs H Q => ∃ x : Str, xs = [.str x] ∧ x.length ≤ sizeLine ∧ ∀ p, H p = none → Q (.ref p) (upd H p (.lst (x.cps.toList.map fun c => V.str ⟨#[c]⟩)))) := by
  intro pins s σ H xs us Q I r h
  obtain ⟨x, rfl, hz, q⟩ := h
  obtain ⟨u, rfl, ⟨t, rfl⟩⟩ := vals1 r
  refine call_list_str (I.ok.hd hc) x t (fun h' tk acc c' hk hS hi => ?_) hz
  refine ⟨.ref s.heap.objs.size, _, I.laid hk (Nat.le_refl _) (o := .lst (x.cps.toList.map fun c => V.str ⟨#[c]⟩)) ⟨?_, acc.toList, c', ?_, ?_⟩, rfl, q _ (I.hok.fresh (Nat.le_refl _))⟩
  · rw [List.length_map, Array.length_toList]; exact hz
  · refine vals_of_at ?_ fun j v u h1 h2 => ?_
    · rw [List.length_map, Array.length_toList, Array.length_toList, hi.1]
    · simp only [List.getElem?_map, Array.getElem?_toList] at h1 h2
      obtain ⟨c, w, e1, rfl⟩ := hi.2 j u h2
      rw [e1] at h1
      simp only [Option.map_some, Option.some.injEq] at h1
      subst h1
      exact ⟨w, rfl⟩
  · rw [Array.toArray_toList]; exact hS
theorem repL_signs {zc : Cn} {F : Hp} : ∀ l : List Nat, RepL zc F (l.map fun c => V.str ⟨#[c]⟩) (l.map one)
  | [] => .nil
  | c :: r => .cons (.str _) (repL_signs r)
theorem p_toL (hc : X.calm = true) : Pr1 X z S .toL (.type "list") [] := by
  intro σ H F G env n x d r l Q er hx hs hq
  unfold sem1 at hs
  split at hs <;> try (first | contradiction | (rename_i h1 h2; cases h1; done))
  · cases hs
    obtain ⟨a, vs, rfl, ea, ra, fa⟩ := lvLst er.fg hx
    exact call_list_of.w ⟨a, vs, rfl, .inl (SqL.of (er.gh _ _ ea)), fun p hp => fin_lst er hp ra (fun hl => fa (lv_one hl)) hq⟩
  · cases hs
    obtain ⟨a, vs, rfl, ea, ra, fa⟩ := lvTup er.fg hx
    exact call_list_of.w ⟨a, vs, rfl, .inr (SqT.of (er.gh _ _ ea)), fun p hp => fin_lst er hp ra (fun hl => (fa (lv_one hl)).2) hq⟩
  · split at hs <;> cases hs
    rename_i hz
    have e := lvStr er.fg hx
    subst e
    exact (cr_listStr hc).w ⟨_, rfl, by rw [← line_eq]; exact hz, fun p hp => fin_lst er hp (repL_signs _) (fun _ => repL_signs _) hq⟩
theorem p_toT : Pr1 X z S .toT (.type "tuple") [] := by
  intro σ H F G env n x d r l Q er hx hs hq
  unfold sem1 at hs
  split at hs <;> try (first | contradiction | (rename_i h1 h2; cases h1; done))
  · cases hs
    obtain ⟨a, vs, rfl, ea, ra, fa⟩ := lvLst er.fg hx
    exact call_tuple_of.w ⟨a, vs, rfl, .inl ⟨SqL.of (er.gh _ _ ea), fun p hp => fin_tup er hp ra (fun hl => fa (lv_one hl)) hq⟩⟩
  · cases hs
    obtain ⟨a, vs, rfl, ea, ra, fa⟩ := lvTup er.fg hx
    refine call_tuple_of.w ⟨a, vs, rfl, .inr ⟨SqT.of (er.gh _ _ ea), hq _ _ _ _ er.refl ?_⟩⟩
    match h : lv1 .toT l with
    | 0 => exact Rep.tup ea ra
    | k + 1 =>
      have t := fa (lv_one (by show 1 ≤ lv1 .toT l; rw [h]; omega))
      exact Rep.lv er.fg _ (.tup t.1 t.2)
theorem p_strI : Pr1 X z S .strI (.type "str") [] := by
  intro σ H F G env n x d r l Q er hx hs hq
  unfold sem1 at hs
  split at hs <;> try (first | contradiction | (rename_i h1 h2; cases h1; done))
  split at hs <;> cases hs
  rename_i hz
  have e := lvInt er.fg hx
  subst e
  exact call_str_int.w ⟨_, rfl, hz, fin_same er (.str _) hq⟩
theorem clsV_ty (n : String) : ClsV (.ty n) (.type n) := by first | exact .ty n | exact .ty | constructor
theorem p_isStr : Pr1 X z S .isStr (.builtin "isinstance") [.ty "str"] := by
  intro σ H F G env n x d r l Q er hx hs hq
  unfold sem1 at hs
  split at hs <;> try (first | contradiction | (rename_i h1 h2; cases h1; done))
  · cases hs
    have e := lvStr er.fg hx
    subst e
    exact call_isi.w ⟨_, _, _, _, true, rfl, clsV_ty "str", .base (.str _), kit_ty (by decide +kernel), fin_same er (.bl _) hq⟩
  · cases hs
    obtain ⟨a, vs, rfl, ea, ra, fa⟩ := lvTup er.fg hx
    exact call_isi.w ⟨_, _, _, _, false, rfl, clsV_ty "str", .base (.tup (er.gh _ _ ea)), kit_ty (by decide +kernel), fin_same er (.bl _) hq⟩
theorem p_isTup : Pr1 X z S .isTup (.builtin "isinstance") [.ty "tuple"] := by
  intro σ H F G env n x d r l Q er hx hs hq
  unfold sem1 at hs
  split at hs <;> try (first | contradiction | (rename_i h1 h2; cases h1; done))
  · cases hs
    obtain ⟨a, vs, rfl, ea, ra, fa⟩ := lvTup er.fg hx
    exact call_isi.w ⟨_, _, _, _, true, rfl, clsV_ty "tuple", .base (.tup (er.gh _ _ ea)), kit_ty (by decide +kernel), fin_same er (.bl _) hq⟩
  · cases hs
    have e := lvStr er.fg hx
    subst e
    exact call_isi.w ⟨_, _, _, _, false, rfl, clsV_ty "tuple", .base (.str _), kit_ty (by decide +kernel), fin_same er (.bl _) hq⟩
/-- two arguments -/
def Pr2C (X : Cx) (z : Fx) (p : P2) (f : Value) : Prop := ∀ {σ : St} {H F G : Hp} {env : Ev} {n : Nat} {x y : V} {d e r : D} {l m : Nat} {Q : VK},
  ER z σ H F G env n → RepLv z.toCn l F G x d → RepLv z.toCn m F G y e → sem2 p n d e = some r →
  (∀ v H' F' G', Step z H F G H' F' G' n → RepLv z.toCn (lv2 p l m) F' G' v r → Q v H') → wC X f [x, y] H Q
theorem p_min2 (hc : X.calm = true) : Pr2C X z .min2 (.builtin "min") := by
  intro σ H F G env n x y d e r l m Q er hx hy hs hq
  unfold sem2 at hs
  split at hs <;> try (first | contradiction | (rename_i h1 h2 h3; cases h1; done))
  cases hs
  have e1 := lvInt er.fg hx
  have e2 := lvInt er.fg hy
  subst e1 e2
  exact (call_min2 hc).w ⟨_, _, rfl, fin_same er (.int _) hq⟩
theorem p_max2 (hc : X.calm = true) : Pr2C X z .max2 (.builtin "max") := by
  intro σ H F G env n x y d e r l m Q er hx hy hs hq
  unfold sem2 at hs
  split at hs <;> try (first | contradiction | (rename_i h1 h2 h3; cases h1; done))
  cases hs
  have e1 := lvInt er.fg hx
  have e2 := lvInt er.fg hy
  subst e1 e2
  exact (call_max2 hc).w ⟨_, _, rfl, fin_same er (.int _) hq⟩
/-- a method of one argument -/
def Pr2M (X : Cx) (z : Fx) (p : P2) (id : String) : Prop := ∀ {σ : St} {H F G : Hp} {env : Ev} {n : Nat} {x y : V} {d e r : D} {l m : Nat} {Q : VK},
  ER z σ H F G env n → RepLv z.toCn l F G x d → RepLv z.toCn m F G y e → sem2 p n d e = some r →
  (∀ v H' F' G', Step z H F G H' F' G' n → RepLv z.toCn (lv2 p l m) F' G' v r → Q v H') → wM X id x [y] H Q
theorem p_index (hu : X.A.units + 65 < cLine) : Pr2M X z .index "list.index" := by
  intro σ H F G env n x y d e r l m Q er hx hy hs hq
  cases d with
  | lst xs =>
    simp only [sem2] at hs
    split at hs
    · rename_i hc
      simp only [Bool.and_eq_true] at hc
      simp only [Option.map_eq_some_iff] at hs
      obtain ⟨j, hj, rfl⟩ := hs
      obtain ⟨hl, h1, h2⟩ := List.findIdx?_eq_some_iff_getElem.mp hj
      have hl' : shp (deep + 1) (.lst xs) = true := by simpa [shp] using hc.2
      obtain ⟨a, vs, rfl, ea, ra, fa⟩ := lvLst er.fg hx
      refine (mt_indexD hu).w ⟨a, y, toPy e, toPys xs, j, toPy xs[j], rfl, rfl, by simpa [toPy] using (hx.g er.fg).dp er.gh hl', (hy.g er.fg).dp er.gh hc.1, shpAll_shaped (by decide) hc.2, shp_shaped (by decide) hc.1, ?_, ?_, ?_, fin_same er (.int _) hq⟩
      · rw [toPys_map, List.getElem?_map, List.getElem?_eq_getElem hl]; rfl
      · rw [eqv_py (shpAll_mem hc.2 _ (List.getElem_mem hl)) hc.1]; exact h1
      · intro k z' hk hz
        rw [toPys_map, List.getElem?_map, List.getElem?_eq_getElem (by omega)] at hz
        simp only [Option.map_some, Option.some.injEq] at hz
        subst hz
        rw [eqv_py (shpAll_mem hc.2 _ (List.getElem_mem (by omega))) hc.1]
        simpa using h2 k hk
    · cases hs
  | _ => simp [sem2] at hs
theorem mt_countD (hu : X.A.units + 65 < cLine) : MtR X "list.count" (fun x xs H Q => ∃ (a : Addr) (y : V) (vs : List V) (d : PyData) (ds : List PyData), x = .ref a ∧ xs = [y] ∧ H a = some (.lst vs) ∧ DpAll X.K H vs ds ∧ Dp X.K H y d ∧ SeqAt.shaped d = true ∧ PyData.canLayAll0 ds = true ∧
    Q (.int ((ds.countP fun y => PyData.eqv y d : Nat) : Int)) H) := by
  intro pins s σ H x xs v us Q I rx rs h
  obtain ⟨a, y, vs, d, ds, rfl, rfl, ha, hds, hd, sd, sl, q⟩ := h
  obtain ⟨u, rfl, ry⟩ := vals1 rs
  cases rx
  obtain ⟨its, rv, hl, _⟩ := I.list (SqL.of ha)
  obtain ⟨as, hr⟩ := Dp.readsAll I ds vs its hds rv
  obtain ⟨bs, hb⟩ := Dp.reads I d y u hd ry
  have h1 := SeqAt.canLay_of_shaped sd
  have h2 := SeqAt.depth_of_shaped sd
  refine SeqAt.count_list_data hl.isList (by simpa using hr) hb (PyData.plainAll_of_canLay0 _ sl) (PyData.plain_of_canLay0 _ h1) ?_ ⟨.int _, H, I.tok _, ⟨_, rfl⟩, q⟩
  have : min (PyData.depthAll ds) d.depth ≤ d.depth := Nat.min_le_right _ _
  omega
theorem p_count (hu : X.A.units + 65 < cLine) : Pr2M X z .count "list.count" := by
  intro σ H F G env n x y d e r l m Q er hx hy hs hq
  cases d with
  | lst xs =>
    simp only [sem2] at hs
    split at hs
    · rename_i hc
      simp only [Bool.and_eq_true] at hc
      cases hs
      obtain ⟨a, vs, rfl, ea, ra, fa⟩ := lvLst er.fg hx
      refine (mt_countD hu).w ⟨a, y, vs, toPy e, toPys xs, rfl, rfl, er.gh _ _ ea, ra.dp er.gh hc.2, (hy.g er.fg).dp er.gh hc.1, shp_shaped (by decide) hc.1, (shpAll_lay hc.2).1, ?_⟩
      have : (toPys xs).countP (fun y => PyData.eqv y (toPy e)) = xs.countP fun y => eqv y e := by
        have hm := shpAll_mem hc.2
        clear hx hq ra fa
        induction xs with
        | nil => rfl
        | cons w ws ih =>
          have hw := hm w List.mem_cons_self
          simp only [shpAll, Bool.and_eq_true] at hc
          simp only [toPys, List.countP_cons, eqv_py hw hc.1]
          rw [ih ⟨hc.1, hc.2.2⟩ (shpAll_mem hc.2.2)]
      rw [this]
      exact fin_same er (.int _) hq
    · cases hs
  | _ => simp [sem2] at hs
/-! subscripts -/
def wX (X : Cx) (value slice : Expr) : R2 := fun x y H Q => ∀ (pins : List (Addr × Obj)) (s : Shared) (σ : St) (v u : Value), Inv X pins σ H s → RelV x v → RelV y u → subscripted slice false v u = operate [v, u] (getItem v u) → wpAny (model X.prog X.w) X.A (subscriptTail value slice v u) (EP X pins σ Q) X.xe s
theorem _root_.L2.IxR.w {r : R2} (h : IxR X r) {value slice : Expr} {x y : V} {H : Hp} {Q : VK} (q : r x y H Q) : wX X value slice x y H Q := fun pins s σ v u I r1 r2 hs => h value slice pins s σ H x y v u Q I r1 r2 q hs
theorem ixN_eq : Mv.ixN = L2.ixN := rfl
theorem pr_idx (hK : X.K = z.K) {value slice : Expr} {σ : St} {H F G : Hp} {env : Ev} {n : Nat} {x y : V} {d e r : D} {l m : Nat} {Q : VK} (er : ER z σ H F G env n) (hx : RepLv z.toCn l F G x d) (hy : RepLv z.toCn m F G y e) (hs : sem2 .idx n d e = some r)
    (hq : ∀ v H' F' G', Step z H F G H' F' G' n → RepLv z.toCn (lv2 .idx l m) F' G' v r → Q v H') : wX X value slice x y H Q := by
  unfold sem2 at hs
  split at hs <;> try (first | contradiction | (rename_i h1 h2 h3; cases h1; done))
  · rename_i xs i _
    obtain ⟨a, vs, rfl, ea, ra, fa⟩ := lvLst er.fg hx
    obtain ⟨j, h1, h2⟩ := Option.bind_eq_some_iff.mp hs
    obtain ⟨v, hv, rv⟩ := ra.get h2
    refine ix_list.w ⟨a, vs, i, v, rfl, lvInt er.fg hy, SqL.of (er.gh _ _ ea), ?_, hq _ _ _ _ er.refl ?_⟩
    · unfold atI
      rw [ra.length, ← ixN_eq, h1]
      exact hv
    · match h : lv2 .idx l m with
      | 0 => exact rv
      | k + 1 =>
        obtain ⟨v', hv', rv'⟩ := (fa (lv_one (by show 1 ≤ lv2 .idx l m; rw [h]; omega))).get h2
        rw [hv] at hv'
        cases hv'
        exact Rep.lv er.fg _ rv'
  · rename_i xs i _
    obtain ⟨a, vs, rfl, ea, ra, fa⟩ := lvTup er.fg hx
    obtain ⟨j, h1, h2⟩ := Option.bind_eq_some_iff.mp hs
    obtain ⟨v, hv, rv⟩ := ra.get h2
    refine ix_tup.w ⟨a, vs, i, v, rfl, lvInt er.fg hy, SqT.of (er.gh _ _ ea), ?_, hq _ _ _ _ er.refl ?_⟩
    · unfold atI
      rw [ra.length, ← ixN_eq, h1]
      exact hv
    · match h : lv2 .idx l m with
      | 0 => exact rv
      | k + 1 =>
        obtain ⟨v', hv', rv'⟩ := (fa (lv_one (by show 1 ≤ lv2 .idx l m; rw [h]; omega))).2.get h2
        rw [hv] at hv'
        cases hv'
        exact Rep.lv er.fg _ rv'
  · rename_i ns i _
    have q : Rep z.toCn G x (.scr _) := hx.g er.fg
    cases q with
    | scr e =>
      obtain ⟨j, h1, h2⟩ := Option.bind_eq_some_iff.mp hs
      obtain ⟨k, h3, rfl⟩ := Option.map_eq_some_iff.mp h2
      refine ix_list.w ⟨_, _, i, .int k, rfl, lvInt er.fg hy, by rw [hK]; exact sqL_mono er.gh e, ?_, fin_same er (.int _) hq⟩
      unfold atI
      rw [List.length_map, ← ixN_eq, h1]
      show (ns.map V.int)[j]? = _
      rw [List.getElem?_map, h3]
      rfl
  · split at hs
    · rename_i zs i _ hz
      obtain ⟨j, h1, h2⟩ := Option.bind_eq_some_iff.mp hs
      obtain ⟨k, h3, rfl⟩ := Option.map_eq_some_iff.mp h2
      refine ix_str.w ⟨zs, i, k, lvStr er.fg hx, lvInt er.fg hy, by rw [← line_eq]; exact hz, ?_, fin_same er (.str _) hq⟩
      unfold atI
      have : zs.cps.toList.length = zs.length := by rw [Array.length_toList]; rfl
      rw [this, ← ixN_eq, h1]
      exact h3
    · cases hs
end
end L2.Ms

namespace L2.Ms
open PySem PySem.Spec PyProof.Rows Mv

/-! ### what holds of the context -/
structure Good (X : Cx) (z : Cn) (W : WX) (L : Nat) : Prop where
  calm : X.calm = true
  K : X.K = z.K
  nd : X.N.Nodup
  room : Room L X.A
  po : PassesOwn (model X.prog X.w) X.A X.env X.xe
  tk : Takes X W
theorem Good.u {X : Cx} {z : Cn} {W : WX} {L : Nat} (g : Good X z W L) : X.A.units + 65 < cLine := by have := g.room.un; omega
theorem Good.u4 {X : Cx} {z : Cn} {W : WX} {L : Nat} (g : Good X z W L) : X.A.units + 64 < cLine := by have := g.room.un; omega

section
variable {z : Fx} {W : WX} {σ : St} {H F G H1 F1 G1 : Hp} {lv n1 : Nat} {Q : VK}
theorem PostE.step (s : Step z H F G H1 F1 G1 n1) {o : Out D} (h : PostE z W σ H F G lv o Q) : PostE z W σ H1 F1 G1 lv o Q := by
  cases o with
  | ok d n' => exact fun v H' F' G' st r => h v H' F' G' (s.trans st) r
  | ex c n' => exact fun H' F' G' st => h H' F' G' (s.trans st)
  | bad => exact h
def PostT (z : Fx) (W : WX) (σ : St) (H F G : Hp) (o : Out D) (Q : Bool → Hp → Prop) : Prop := match o with
  | .ok (.bl b) n' => ∀ H' F' G', Step z H F G H' F' G' n' → Q b H'
  | .ok _ _ => False
  | .ex c n' => ∀ H' F' G', Step z H F G H' F' G' n' → W (.ref (He.ga z.K c)) none σ H'
  | .bad => False
theorem PostT.step {QT : Bool → Hp → Prop} (s : Step z H F G H1 F1 G1 n1) {o : Out D} (h : PostT z W σ H F G o QT) : PostT z W σ H1 F1 G1 o QT := by
  cases o with
  | ok d n' =>
    cases d with
    | bl b => exact fun H' F' G' st => h H' F' G' (s.trans st)
    | _ => exact h
  | ex c n' => exact fun H' F' G' st => h H' F' G' (s.trans st)
  | bad => exact h
def PostA (z : Fx) (W : WX) (σ : St) (H F G : Hp) (two : Bool) (o : Out (List D)) (Q : List V → Hp → Prop) : Prop := match o with
  | .ok ds n' => ∀ vs H' F' G', Step z H F G H' F' G' n' → RepL z.toCn G' vs ds → (two = true → RepL z.toCn F' vs ds) → Q vs H'
  | .ex c n' => ∀ H' F' G', Step z H F G H' F' G' n' → W (.ref (He.ga z.K c)) none σ H'
  | .bad => False
end

section
variable (X : Cx) (z : Fx) (W : WX) (S : Sub) (T : Tab)
def SE (me : ME) (e : Expr) : Prop := ∀ {σ : St} {H F G : Hp} {env : Ev} {n : Nat} {Q : VK}, ER z σ H F G env n → PostE z W σ H F G (lev z.own me) (evE S T me env n) Q → wE X e σ H Q
def ST (me : ME) (e : Expr) : Prop := ∀ {σ : St} {H F G : Hp} {env : Ev} {n : Nat} {Q : Bool → Hp → Prop}, ER z σ H F G env n → PostT z W σ H F G (evE S T me env n) Q → wT X e σ H Q
def SA (mes : MEs) (es : List Expr) : Prop := ∀ {σ : St} {H F G : Hp} {env : Ev} {n : Nat} {Q : List V → Hp → Prop}, ER z σ H F G env n → PostA z W σ H F G (levA z.own mes) (evA S T mes env n) Q → wA X es σ H Q
end
section
variable {X : Cx} {z : Fx} {W : WX} {S : Sub} {T : Tab} {σ : St} {H F G : Hp} {env : Ev} {n : Nat}
theorem SE.use {a : ME} {e : Expr} (ha : SE X z W S T a e) (er : ER z σ H F G env n) {f : D → Nat → Out D} {lv : Nat} {Q Q1 : VK} (h : PostE z W σ H F G lv ((evE S T a env n).bind f) Q)
    (k : ∀ d n1 v H1 F1 G1, evE S T a env n = .ok d n1 → Step z H F G H1 F1 G1 n1 → ER z σ H1 F1 G1 env n1 → RepLv z.toCn (lev z.own a) F1 G1 v d → PostE z W σ H1 F1 G1 lv (f d n1) Q → Q1 v H1) : wE X e σ H Q1 := by
  refine ha er ?_
  cases h1 : evE S T a env n with
  | ok d n1 =>
    rw [h1] at h
    exact fun v H1 F1 G1 st r => k d n1 v H1 F1 G1 h1 st (er.step st) r (PostE.step st h)
  | ex c n1 =>
    rw [h1] at h
    exact h
  | bad =>
    rw [h1] at h
    exact h
/-- .. within a test -/
theorem SE.useT {a : ME} {e : Expr} (ha : SE X z W S T a e) (er : ER z σ H F G env n) {f : D → Nat → Out D} {Q : Bool → Hp → Prop} {Q1 : VK} (h : PostT z W σ H F G ((evE S T a env n).bind f) Q)
    (k : ∀ d n1 v H1 F1 G1, evE S T a env n = .ok d n1 → Step z H F G H1 F1 G1 n1 → ER z σ H1 F1 G1 env n1 → RepLv z.toCn (lev z.own a) F1 G1 v d → PostT z W σ H1 F1 G1 (f d n1) Q → Q1 v H1) : wE X e σ H Q1 := by
  refine ha er ?_
  cases h1 : evE S T a env n with
  | ok d n1 =>
    rw [h1] at h
    exact fun v H1 F1 G1 st r => k d n1 v H1 F1 G1 h1 st (er.step st) r (PostT.step st h)
  | ex c n1 =>
    rw [h1] at h
    exact h
  | bad =>
    rw [h1] at h
    exact h
theorem ST.use {a : ME} {e : Expr} (ha : ST X z W S T a e) (er : ER z σ H F G env n) {f : D → Nat → Out D} {lv : Nat} {Q : VK} {Q1 : Bool → Hp → Prop} (h : PostE z W σ H F G lv ((evE S T a env n).bind f) Q) (hb : ∀ d n, (∀ b, d ≠ .bl b) → f d n = .bad)
    (k : ∀ b n1 H1 F1 G1, evE S T a env n = .ok (.bl b) n1 → Step z H F G H1 F1 G1 n1 → ER z σ H1 F1 G1 env n1 → PostE z W σ H1 F1 G1 lv (f (.bl b) n1) Q → Q1 b H1) : wT X e σ H Q1 := by
  refine ha er ?_
  cases h1 : evE S T a env n with
  | ok d n1 =>
    rw [h1] at h
    cases d with
    | bl b => exact fun H1 F1 G1 st => k b n1 H1 F1 G1 h1 st (er.step st) (PostE.step st h)
    | _ => rw [Out.bind_ok, hb _ _ (by intro b q; cases q)] at h; exact h
  | ex c n1 =>
    rw [h1] at h
    exact h
  | bad =>
    rw [h1] at h
    exact h
theorem ST.useT {a : ME} {e : Expr} (ha : ST X z W S T a e) (er : ER z σ H F G env n) {f : D → Nat → Out D} {Q Q1 : Bool → Hp → Prop} (h : PostT z W σ H F G ((evE S T a env n).bind f) Q) (hb : ∀ d n, (∀ b, d ≠ .bl b) → f d n = .bad)
    (k : ∀ b n1 H1 F1 G1, evE S T a env n = .ok (.bl b) n1 → Step z H F G H1 F1 G1 n1 → ER z σ H1 F1 G1 env n1 → PostT z W σ H1 F1 G1 (f (.bl b) n1) Q → Q1 b H1) : wT X e σ H Q1 := by
  refine ha er ?_
  cases h1 : evE S T a env n with
  | ok d n1 =>
    rw [h1] at h
    cases d with
    | bl b => exact fun H1 F1 G1 st => k b n1 H1 F1 G1 h1 st (er.step st) (PostT.step st h)
    | _ => rw [Out.bind_ok, hb _ _ (by intro b q; cases q)] at h; exact h
  | ex c n1 =>
    rw [h1] at h
    exact h
  | bad =>
    rw [h1] at h
    exact h
theorem PostE.lift {lv : Nat} {o : Option D} {Q : VK} (h : PostE z W σ H F G lv (Out.lift o n) Q) : ∃ r, o = some r ∧ ∀ v H' F' G', Step z H F G H' F' G' n → RepLv z.toCn lv F' G' v r → Q v H' := by
  cases o with
  | none => exact h.elim
  | some r => exact ⟨r, rfl, h⟩

/-! ### constants, names -/
theorem se_bad {e : Expr} : SE X z W S T .bad e := fun _ h => h.elim
theorem st_bad {e : Expr} : ST X z W S T .bad e := fun _ h => h.elim
theorem se_c {e : Expr} {d : D} {v : V} (r : ∀ F, Rep z.toCn F v d) (h : PE X e (tC v)) : SE X z W S T (.c d) e := fun er p => h.w (p v _ _ _ er.refl (Rep.lv er.fg _ (r _)))
theorem se_v {e : Expr} {i : Nat} (h : PE X e (tVar i)) : SE X z W S T (.v i) e := fun {σ H F G env n Q} er p => by
  refine h.w ?_
  simp only [evE] at p
  split at p
  · rename_i d hd
    cases ho : z.own i with
    | false =>
      obtain ⟨v, e1, r⟩ := er.val i d hd ho
      exact ⟨v, e1, p v _ _ _ er.refl (Rep.lv er.fg _ r)⟩
    | true =>
      obtain ⟨q, vs, ds, rfl, e1, e2, _, r⟩ := er.ow i d hd ho
      refine ⟨_, e1, p _ _ _ _ er.refl ?_⟩
      simp only [lev, ho, if_true]
      exact ⟨q, vs, rfl, e2, r⟩
  · exact p.elim

/-! ### two-place pieces -/
theorem se_p2 {p : P2} {a b : ME} {e1 e2 : Expr} {op : Operator} {pos : Pos} (hp : Pr2 X z p (binaryOp op)) (ha : SE X z W S T a e1) (hb : SE X z W S T b e2) : SE X z W S T (.p2 p a b) (.BinOp e1 op e2 pos) := fun {σ H F G env n Q} er h => by
  refine (pe_op w2R (peW e1) (peW e2)).w (ha.use er h fun d n1 v H1 F1 G1 _ s1 er1 r1 h1 => hb.use er1 h1 fun d2 n2 v2 H2 F2 G2 _ s2 er2 r2 h2 => ?_)
  obtain ⟨r, hr, hq⟩ := h2.lift
  exact hp er2 (r1.mono s2.ff s2.gg) r2 hr hq
theorem se_cmp {p : P2} {a b : ME} {e1 e2 : Expr} {op : CmpOp} {pos : Pos} (hp : Pr2 X z p (compareOp op)) (hm : behindInMarks op e2 = false) (ha : SE X z W S T a e1) (hb : SE X z W S T b e2) : SE X z W S T (.p2 p a b) (.Compare e1 [op] [e2] pos) := fun {σ H F G env n Q} er h => by
  refine (pe_cmpR w2R (peW e1) (peW e2) hm).w (ha.use er h fun d n1 v H1 F1 G1 _ s1 er1 r1 h1 => hb.use er1 h1 fun d2 n2 v2 H2 F2 G2 _ s2 er2 r2 h2 => ?_)
  obtain ⟨r, hr, hq⟩ := h2.lift
  exact hp er2 (r1.mono s2.ff s2.gg) r2 hr hq
theorem se_idx {a b : ME} {e1 e2 : Expr} {pos : Pos} (hK : X.K = z.K) (hs : PlainIx e2) (ha : SE X z W S T a e1) (hb : SE X z W S T b e2) : SE X z W S T (.p2 .idx a b) (.Subscript e1 e2 pos) := fun {σ H F G env n Q} er h => by
  intro pins s I
  refine Subscript_ (binT (peW e1) (peW e2) I (R := fun x y H2 => wX X e1 e2 x y H2 Q) (ha.use er h fun d n1 v H1 F1 G1 _ s1 er1 r1 h1 => hb.use er1 h1 fun d2 n2 v2 H2 F2 G2 _ s2 er2 r2 h2 => ?_) fun v u s2 x y H2 I2 rx ry q => q pins s2 σ v u I2 rx ry (hs _ _))
  obtain ⟨r, hr, hq⟩ := h2.lift
  exact pr_idx hK er2 (r1.mono s2.ff s2.gg) r2 hr hq

/-! ### tests -/
theorem wT_val {e : Expr} {Q : Bool → Hp → Prop} (he : ∀ whole, isTrue e X.env whole = (do let v ← whole; standAt e.pos; holding [v] (truthy v))) (h : wE X e σ H fun x H1 => ∃ c, x = .bl c ∧ Q c H1) : wT X e σ H Q := (pt_val (peW e) he).w h
/-- a value that is a truth, as a test -/
theorem st_val {a : ME} {e : Expr} (he : ∀ whole, isTrue e X.env whole = (do let v ← whole; standAt e.pos; holding [v] (truthy v))) (ha : SE X z W S T a e) : ST X z W S T a e := fun {σ H F G env n Q} er h => by
  refine wT_val he (ha er ?_)
  cases h1 : evE S T a env n with
  | ok d n1 =>
    rw [h1] at h
    cases d with
    | bl b =>
      intro v H1 F1 G1 st r
      exact ⟨b, lvBl st.fg r, h H1 F1 G1 st⟩
    | _ => exact h.elim
  | ex c n1 => rw [h1] at h; exact h
  | bad => rw [h1] at h; exact h
theorem st_cmp {p : P2} {a b : ME} {e1 e2 : Expr} {op : CmpOp} {pos : Pos} (hp : Pr2 X z p (compareOp op)) (hm : behindInMarks op e2 = false) (ha : SE X z W S T a e1) (hb : SE X z W S T b e2) (hl : lv2 p = fun _ _ => 2) : ST X z W S T (.p2 p a b) (.Compare e1 [op] [e2] pos) := fun {σ H F G env n Q} er h => by
  refine (pt_cmpR w2R (peW e1) (peW e2) hm).w (ha.useT er h fun d n1 v H1 F1 G1 _ s1 er1 r1 h1 => hb.useT er1 h1 fun d2 n2 v2 H2 F2 G2 _ s2 er2 r2 h2 => ?_)
  cases hr : sem2 p n2 d d2 with
  | none => rw [hr] at h2; exact h2.elim
  | some r =>
    rw [hr] at h2
    refine hp er2 (r1.mono s2.ff s2.gg) r2 hr fun v H' F' G' st rr => ?_
    cases r with
    | bl b => exact ⟨b, lvBl st.fg rr, h2 H' F' G' st⟩
    | _ => exact h2.elim
theorem st_not {a : ME} {e : Expr} {pos : Pos} (ha : ST X z W S T a e) : ST X z W S T (.p1 .not_ a) (.UnaryOp .Not e pos) := fun {σ H F G env n Q} er h => by
  refine (pt_not (ptW e)).w (ha.useT er h (fun d n hd => by cases d <;> first | rfl | exact absurd rfl (hd _)) fun b n1 H1 F1 G1 _ s1 er1 h1 => ?_)
  exact h1 H1 F1 G1 er1.refl
theorem st_and1 {a : ME} {e : Expr} {pos : Pos} (ha : ST X z W S T a e) : ∀ {σ : St} {H F G : Hp} {env : Ev} {n : Nat} {Q : Bool → Hp → Prop}, ER z σ H F G env n → PostT z W σ H F G (evE S T a env n) Q → ∀ wh pins s, Inv X pins σ H s → wpAny (model X.prog X.w) X.A (isTrue (.BoolOp .And [e] pos) X.env wh) (TP X pins σ Q) X.xe s := fun er h wh pins s I =>
  (pw_and1 (ptW e)).run wh pins s _ _ _ I (ha er h)
theorem st_and2 {a b : ME} {e1 e2 : Expr} {pos : Pos} (ha : ST X z W S T a e1) (hb : ST X z W S T b e2) : ST X z W S T (.and a b) (.BoolOp .And [e1, e2] pos) := fun {σ H F G env n Q} er h => by
  refine (PW.pt (pw_and (ptW e1) (pw_and1 (ptW e2)))).w (ha.useT er h (fun d n hd => by cases d <;> first | rfl | exact absurd rfl (hd _)) fun c n1 H1 F1 G1 _ s1 er1 h1 => ?_)
  cases c with
  | true => rw [if_pos rfl]; exact hb er1 h1
  | false => rw [if_neg Bool.false_ne_true]; exact h1 H1 F1 G1 er1.refl
theorem st_or2 {a b : ME} {e1 e2 : Expr} {pos : Pos} (ha : ST X z W S T a e1) (hb : ST X z W S T b e2) : ST X z W S T (.or a b) (.BoolOp .Or [e1, e2] pos) := fun {σ H F G env n Q} er h => by
  refine (PW.pt (pw_or (ptW e1) (pw_or1 (ptW e2)))).w (ha.useT er h (fun d n hd => by cases d <;> first | rfl | exact absurd rfl (hd _)) fun c n1 H1 F1 G1 _ s1 er1 h1 => ?_)
  cases c with
  | false => rw [if_neg Bool.false_ne_true]; exact hb er1 h1
  | true => rw [if_pos rfl]; exact h1 H1 F1 G1 er1.refl
theorem st_and3 {a b c : ME} {e1 e2 e3 : Expr} {pos : Pos} (ha : ST X z W S T a e1) (hb : ST X z W S T b e2) (hc : ST X z W S T c e3) : ST X z W S T (.and a (.and b c)) (.BoolOp .And [e1, e2, e3] pos) := fun {σ H F G env n Q} er h => by
  refine (PW.pt (pw_and (ptW e1) (pw_and (ptW e2) (pw_and1 (ptW e3))))).w (ha.useT er h (fun d n hd => by cases d <;> first | rfl | exact absurd rfl (hd _)) fun c n1 H1 F1 G1 _ s1 er1 h1 => ?_)
  cases c with
  | true =>
    rw [if_pos rfl]
    refine hb.useT er1 h1 (fun d n hd => by cases d <;> first | rfl | exact absurd rfl (hd _)) fun c n2 H2 F2 G2 _ s2 er2 h2 => ?_
    cases c with
    | true => rw [if_pos rfl]; exact hc er2 h2
    | false => rw [if_neg Bool.false_ne_true]; exact h2 H2 F2 G2 er2.refl
  | false => rw [if_neg Bool.false_ne_true]; exact h1 H1 F1 G1 er1.refl
theorem st_or3 {a b c : ME} {e1 e2 e3 : Expr} {pos : Pos} (ha : ST X z W S T a e1) (hb : ST X z W S T b e2) (hc : ST X z W S T c e3) : ST X z W S T (.or a (.or b c)) (.BoolOp .Or [e1, e2, e3] pos) := fun {σ H F G env n Q} er h => by
  refine (PW.pt (pw_or (ptW e1) (pw_or (ptW e2) (pw_or1 (ptW e3))))).w (ha.useT er h (fun d n hd => by cases d <;> first | rfl | exact absurd rfl (hd _)) fun c n1 H1 F1 G1 _ s1 er1 h1 => ?_)
  cases c with
  | false =>
    rw [if_neg Bool.false_ne_true]
    refine hb.useT er1 h1 (fun d n hd => by cases d <;> first | rfl | exact absurd rfl (hd _)) fun c n2 H2 F2 G2 _ s2 er2 h2 => ?_
    cases c with
    | false => rw [if_neg Bool.false_ne_true]; exact hc er2 h2
    | true => rw [if_pos rfl]; exact h2 H2 F2 G2 er2.refl
  | true => rw [if_pos rfl]; exact h1 H1 F1 G1 er1.refl
end
end L2.Ms

namespace L2.Ms
open PySem PySem.Spec PyProof.Rows Mv

def noStar : Expr → Bool
  | .Starred _ _ => false
  | _ => true
theorem starEach_cons {e : Expr} (es : List Expr) (env : Env) (h : noStar e = true) : starEach (e :: es) env = (false, eval e env) :: starEach es env := by
  cases e <;> first | rfl | (simp [noStar] at h)
theorem starEach_plain {pos : Pos} (env : Env) : ∀ {es : List Expr}, es.all noStar = true → (backTo pos (starEach es env)).any (·.1) = false
  | [], _ => rfl
  | e :: es, h => by
    simp only [List.all_cons, Bool.and_eq_true] at h
    rw [starEach_cons es env h.1]
    show (false || (backTo pos (starEach es env)).any (·.1)) = false
    rw [starEach_plain env h.2]; rfl
theorem starEach_few {pos : Pos} (env : Env) : ∀ {es : List Expr}, es.all noStar = true → (backTo pos (starEach es env)).all (fun x => !x.1) = true
  | [], _ => rfl
  | e :: es, h => by
    simp only [List.all_cons, Bool.and_eq_true] at h
    rw [starEach_cons es env h.1]
    show (true && (backTo pos (starEach es env)).all (fun x => !x.1)) = true
    rw [starEach_few env h.2]; rfl

section
variable {X : Cx} {z : Fx} {W : WX} {S : Sub} {T : Tab}
/-! ### truths as values -/
theorem se_not {a : ME} {e : Expr} {pos : Pos} (ha : SE X z W S T a e) : SE X z W S T (.p1 .not_ a) (.UnaryOp .Not e pos) := fun {σ H F G env n Q} er h => by
  refine (pe_not (peW e)).w (ha.use er h fun d n1 v H1 F1 G1 _ s1 er1 r1 h1 => ?_)
  cases d with
  | bl b => exact ⟨b, lvBl er1.fg r1, h1 _ _ _ _ er1.refl (Rep.lv er1.fg _ (.bl _))⟩
  | _ => exact h1.elim
theorem se_and2 {a b : ME} {e1 e2 : Expr} {pos : Pos} (ha : SE X z W S T a e1) (hb : SE X z W S T b e2) : SE X z W S T (.and a b) (.BoolOp .And [e1, e2] pos) := fun {σ H F G env n Q} er h => by
  refine (pe_and (peW e1) (pe_one (peW e2))).w (ha.use er h fun d n1 v H1 F1 G1 _ s1 er1 r1 h1 => ?_)
  cases d with
  | bl c =>
    refine ⟨c, lvBl er1.fg r1, ?_⟩
    cases c with
    | true => rw [if_pos rfl]; exact hb er1 h1
    | false => rw [if_neg Bool.false_ne_true]; exact h1 _ _ _ _ er1.refl (Rep.lv er1.fg _ (.bl _))
  | _ => exact h1.elim
theorem se_or2 {a b : ME} {e1 e2 : Expr} {pos : Pos} (ha : SE X z W S T a e1) (hb : SE X z W S T b e2) : SE X z W S T (.or a b) (.BoolOp .Or [e1, e2] pos) := fun {σ H F G env n Q} er h => by
  refine (pe_or (peW e1) (pe_one (peW e2))).w (ha.use er h fun d n1 v H1 F1 G1 _ s1 er1 r1 h1 => ?_)
  cases d with
  | bl c =>
    refine ⟨c, lvBl er1.fg r1, ?_⟩
    cases c with
    | false => rw [if_neg Bool.false_ne_true]; exact hb er1 h1
    | true => rw [if_pos rfl]; exact h1 _ _ _ _ er1.refl (Rep.lv er1.fg _ (.bl _))
  | _ => exact h1.elim
theorem se_and3 {a b c : ME} {e1 e2 e3 : Expr} {pos : Pos} (ha : SE X z W S T a e1) (hb : SE X z W S T b e2) (hc : SE X z W S T c e3) : SE X z W S T (.and a (.and b c)) (.BoolOp .And [e1, e2, e3] pos) := fun {σ H F G env n Q} er h => by
  refine (pe_and (peW e1) (peW _)).w (ha.use er h fun d n1 v H1 F1 G1 _ s1 er1 r1 h1 => ?_)
  cases d with
  | bl c =>
    refine ⟨c, lvBl er1.fg r1, ?_⟩
    cases c with
    | true => rw [if_pos rfl]; exact se_and2 hb hc er1 h1
    | false => rw [if_neg Bool.false_ne_true]; exact h1 _ _ _ _ er1.refl (Rep.lv er1.fg _ (.bl _))
  | _ => exact h1.elim
theorem se_and4 {a b c d : ME} {e1 e2 e3 e4 : Expr} {pos : Pos} (ha : SE X z W S T a e1) (hb : SE X z W S T b e2) (hc : SE X z W S T c e3) (hd : SE X z W S T d e4) : SE X z W S T (.and a (.and b (.and c d))) (.BoolOp .And [e1, e2, e3, e4] pos) := fun {σ H F G env n Q} er h => by
  refine (pe_and (peW e1) (peW _)).w (ha.use er h fun d n1 v H1 F1 G1 _ s1 er1 r1 h1 => ?_)
  cases d with
  | bl c =>
    refine ⟨c, lvBl er1.fg r1, ?_⟩
    cases c with
    | true => rw [if_pos rfl]; exact se_and3 hb hc hd er1 h1
    | false => rw [if_neg Bool.false_ne_true]; exact h1 _ _ _ _ er1.refl (Rep.lv er1.fg _ (.bl _))
  | _ => exact h1.elim
theorem se_or3 {a b c : ME} {e1 e2 e3 : Expr} {pos : Pos} (ha : SE X z W S T a e1) (hb : SE X z W S T b e2) (hc : SE X z W S T c e3) : SE X z W S T (.or a (.or b c)) (.BoolOp .Or [e1, e2, e3] pos) := fun {σ H F G env n Q} er h => by
  refine (pe_or (peW e1) (peW _)).w (ha.use er h fun d n1 v H1 F1 G1 _ s1 er1 r1 h1 => ?_)
  cases d with
  | bl c =>
    refine ⟨c, lvBl er1.fg r1, ?_⟩
    cases c with
    | false => rw [if_neg Bool.false_ne_true]; exact se_or2 hb hc er1 h1
    | true => rw [if_pos rfl]; exact h1 _ _ _ _ er1.refl (Rep.lv er1.fg _ (.bl _))
  | _ => exact h1.elim
theorem PostE.low {σ : St} {H F G : Hp} {l m : Nat} {o : Out D} {Q : VK} (hl : m ≤ l) (hf : ∀ {H' F' G' n'}, Step z H F G H' F' G' n' → True) (h : PostE z W σ H F G m o Q) : PostE z W σ H F G l o Q := by
  cases o with
  | ok d n' =>
    intro v H' F' G' st r
    refine h v H' F' G' st ?_
    match m, l, hl, r with
    | 0, l, _, r => exact r.g st.fg
    | 1, l, hl, r => exact r.i st.fg (by omega)
    | k + 2, l, hl, r => exact r.two (by omega)
  | ex c n' => exact h
  | bad => exact h
theorem se_ite {t a b : ME} {e0 e1 e2 : Expr} {pos : Pos} (ht : ST X z W S T t e0) (ha : SE X z W S T a e1) (hb : SE X z W S T b e2) : SE X z W S T (.ite t a b) (.IfExp e0 e1 e2 pos) := fun {σ H F G env n Q} er h => by
  refine (pe_ifExp (ptW e0) (peW e1) (peW e2)).w (ht.use er h (fun d n hd => by cases d <;> first | rfl | exact absurd rfl (hd _)) fun c n1 H1 F1 G1 _ s1 er1 h1 => ?_)
  cases c with
  | true => rw [if_pos rfl]; exact ha er1 (PostE.low (Nat.min_le_left _ _) (fun _ => trivial) h1)
  | false => rw [if_neg Bool.false_ne_true]; exact hb er1 (PostE.low (Nat.min_le_right _ _) (fun _ => trivial) h1)
/-! ### a < b < c -/
theorem se_chn {p q : P2} {a b c : ME} {e1 e2 e3 : Expr} {op op' : CmpOp} {pos : Pos} (hp : Pr2 X z p (compareOp op)) (hq : Pr2 X z q (compareOp op')) (hm : lastMarks [op, op'] [e2, e3] = false) (ha : SE X z W S T a e1) (hb : SE X z W S T b e2) (hc : SE X z W S T c e3)
    (l1 : lv2 p = fun _ _ => 2) (l2 : lv2 q = fun _ _ => 2) : SE X z W S T (.chn p q a b c) (.Compare e1 [op, op'] [e2, e3] pos) := fun {σ H F G env n Q} er h => by
  refine (pe_chain w2R w2R (peW e1) (peW e2) (peW e3) hm).w (ha.use er h fun d n1 v H1 F1 G1 _ s1 er1 r1 h1 => hb.use er1 h1 fun d2 n2 v2 H2 F2 G2 _ s2 er2 r2 h2 => ?_)
  cases hr : sem2 p n2 d d2 with
  | none => rw [hr] at h2; exact h2.elim
  | some r =>
    rw [hr] at h2
    refine hp er2 (r1.mono s2.ff s2.gg) r2 hr fun v H3 F3 G3 s3 rr => ?_
    have er3 := er2.step s3
    cases r with
    | bl k =>
      refine ⟨k, lvBl s3.fg rr, ?_⟩
      cases k with
      | false =>
        rw [if_neg Bool.false_ne_true]
        exact h2 _ _ _ _ s3 (Rep.lv s3.fg _ (.bl _))
      | true =>
        rw [if_pos rfl]
        refine hc.use er3 (PostE.step s3 h2) fun d4 n4 v4 H4 F4 G4 _ s4 er4 r4 h4 => ?_
        obtain ⟨r, hr, hq'⟩ := h4.lift
        refine hq er4 ((r2.mono s3.ff s3.gg).mono s4.ff s4.gg) r4 hr ?_
        rw [l2]
        exact hq'
    | _ => exact h2.elim
theorem st_chn {p q : P2} {a b c : ME} {e1 e2 e3 : Expr} {op op' : CmpOp} {pos : Pos} (hp : Pr2 X z p (compareOp op)) (hq : Pr2 X z q (compareOp op')) (hm : lastMarks [op, op'] [e2, e3] = false) (ha : SE X z W S T a e1) (hb : SE X z W S T b e2) (hc : SE X z W S T c e3)
    (l1 : lv2 p = fun _ _ => 2) (l2 : lv2 q = fun _ _ => 2) : ST X z W S T (.chn p q a b c) (.Compare e1 [op, op'] [e2, e3] pos) := fun {σ H F G env n Q} er h => by
  refine (pt_chain w2R w2R (peW e1) (peW e2) (peW e3) hm).w (ha.useT er h fun d n1 v H1 F1 G1 _ s1 er1 r1 h1 => hb.useT er1 h1 fun d2 n2 v2 H2 F2 G2 _ s2 er2 r2 h2 => ?_)
  cases hr : sem2 p n2 d d2 with
  | none => rw [hr] at h2; exact h2.elim
  | some r =>
    rw [hr] at h2
    refine hp er2 (r1.mono s2.ff s2.gg) r2 hr fun v H3 F3 G3 s3 rr => ?_
    have er3 := er2.step s3
    cases r with
    | bl k =>
      refine ⟨k, lvBl s3.fg rr, ?_⟩
      cases k with
      | false =>
        rw [if_neg Bool.false_ne_true]
        exact ⟨false, rfl, h2 _ _ _ s3⟩
      | true =>
        rw [if_pos rfl]
        refine hc.useT er3 (PostT.step s3 h2) fun d4 n4 v4 H4 F4 G4 _ s4 er4 r4 h4 => ?_
        cases hr2 : sem2 q n4 d2 d4 with
        | none => rw [hr2] at h4; exact h4.elim
        | some r =>
          rw [hr2] at h4
          refine hq er4 ((r2.mono s3.ff s3.gg).mono s4.ff s4.gg) r4 hr2 fun v H' F' G' st rr => ?_
          cases r with
          | bl b => exact ⟨b, lvBl st.fg rr, h4 H' F' G' st⟩
          | _ => exact h4.elim
    | _ => exact h2.elim

/-! ### arguments, displays -/
theorem sa_nil : SA X z W S T .nil [] := fun er h => pa_nil.w (h _ _ _ _ er.refl .nil fun _ => .nil)
theorem sa_cons {a : ME} {as : MEs} {e : Expr} {es : List Expr} (hn : noStar e = true) (ha : SE X z W S T a e) (hs : SA X z W S T as es) : SA X z W S T (.cons a as) (e :: es) := fun {σ H F G env n Q} er h => by
  refine (pa_cons (peW e) (paW es) (starEach_cons es _ hn)).w (ha er ?_)
  simp only [evA] at h
  cases h1 : evE S T a env n with
  | ok d n1 =>
    rw [h1, Out.bind_ok] at h
    intro v H1 F1 G1 s1 r1
    refine hs (er.step s1) ?_
    cases h2 : evA S T as env n1 with
    | ok ds n2 =>
      rw [h2, Out.bind_ok] at h
      intro vs H2 F2 G2 s2 r2 f2
      refine h (v :: vs) H2 F2 G2 (s1.trans s2) (.cons ((r1.g s1.fg).mono s2.gg) r2) fun h2 => ?_
      simp only [levA, Bool.and_eq_true, decide_eq_true_eq] at h2
      exact .cons ((r1.two h2.1).mono s2.ff) (f2 h2.2)
    | ex c n2 =>
      rw [h2, Out.bind_ex] at h
      exact fun H2 F2 G2 s2 => h H2 F2 G2 (s1.trans s2)
    | bad =>
      rw [h2, Out.bind_bad] at h
      exact h
  | ex c n1 =>
    rw [h1, Out.bind_ex] at h
    exact h
  | bad =>
    rw [h1, Out.bind_bad] at h
    exact h
theorem SA.use {as : MEs} {es : List Expr} (ha : SA X z W S T as es) {σ : St} {H F G : Hp} {env : Ev} {n : Nat} (er : ER z σ H F G env n) {f : List D → Nat → Out D} {lv : Nat} {Q : VK} {Q1 : List V → Hp → Prop} (h : PostE z W σ H F G lv ((evA S T as env n).bind f) Q)
    (k : ∀ ds n1 vs H1 F1 G1, Step z H F G H1 F1 G1 n1 → ER z σ H1 F1 G1 env n1 → RepL z.toCn G1 vs ds → (levA z.own as = true → RepL z.toCn F1 vs ds) → PostE z W σ H1 F1 G1 lv (f ds n1) Q → Q1 vs H1) : wA X es σ H Q1 := by
  refine ha er ?_
  cases h1 : evA S T as env n with
  | ok d n1 =>
    rw [h1] at h
    exact fun v H1 F1 G1 st r r2 => k d n1 v H1 F1 G1 st (er.step st) r r2 (PostE.step st h)
  | ex c n1 =>
    rw [h1] at h
    exact h
  | bad =>
    rw [h1] at h
    exact h
theorem if_two {b : Bool} (h : 1 ≤ (if b = true then 2 else 0)) : b = true := by
  cases b with
  | true => rfl
  | false => simp at h
theorem fit_some {ds es : List D} (h : fit ds = some es) : es = ds ∧ ds.length ≤ sizeLine := by
  unfold fit at h
  split at h
  · rename_i q
    cases h
    exact ⟨rfl, by rw [← line_eq]; exact q⟩
  · cases h
theorem se_tup {as : MEs} {es : List Expr} {k : Nat} {pos : Pos} (ha : SA X z W S T as es) : SE X z W S T (.tup as) (.Tuple es k pos) := fun {σ H F G env n Q} er h => by
  refine (pe_tup (paW es)).w (ha.use er h fun ds n1 vs H1 F1 G1 s1 er1 r f h1 => ?_)
  obtain ⟨r', hr, hq⟩ := h1.lift
  obtain ⟨es', hr', rfl⟩ := Option.map_eq_some_iff.mp hr
  obtain ⟨rfl, hz⟩ := fit_some hr'
  exact ⟨by rw [r.length]; exact hz, fun p hp => fin_tup er1 hp r (fun hl => f (if_two hl)) hq⟩
theorem se_lst {as : MEs} {es : List Expr} {pos : Pos} (ha : SA X z W S T as es) : SE X z W S T (.lst as) (.List es pos) := fun {σ H F G env n Q} er h => by
  refine (pe_lst (paW es)).w (ha.use er h fun ds n1 vs H1 F1 G1 s1 er1 r f h1 => ?_)
  obtain ⟨r', hr, hq⟩ := h1.lift
  obtain ⟨es', hr', rfl⟩ := Option.map_eq_some_iff.mp hr
  obtain ⟨rfl, hz⟩ := fit_some hr'
  exact ⟨by rw [r.length]; exact hz, fun p hp => fin_lst er1 hp r (fun hl => f (if_two hl)) hq⟩

/-! ### built-in calls -/
theorem se_call1 {p : P1} {a : ME} {e : Expr} {x : Str} {id : String} {q pos : Pos} (hp : Pr1 X z S p (.builtin id) []) (hg : Gl X x) (hm : X.mg x = none) (hv : bootBuiltins x = some (.builtin id)) (hn : noStar e = true) (ha : SE X z W S T a e)
    (hx : x ≠ "__name__" := by decide) (hd : (x == ("__debug__" : Str)) = false := by decide) : SE X z W S T (.p1 p a) (.Call (.Name x q) [e] [] pos) := fun {σ H F G env n Q} er h => by
  refine (pe_callB wCR hg hm hv (pa_cons (peW e) pa_nil (starEach_cons [] _ hn)) hx hd (starEach_cons [] _ hn) rfl).w (ha.use er h fun d n1 v H1 F1 G1 _ s1 er1 r1 h1 => ?_)
  obtain ⟨r, hr, hq⟩ := h1.lift
  exact hp er1 r1 hr hq
theorem se_callT1 {p : P1} {a : ME} {e : Expr} {x : Str} {id : String} {q pos : Pos} (hp : Pr1 X z S p (.type id) []) (hg : Gl X x) (hm : X.mg x = none) (hv : bootBuiltins x = some (.type id)) (hn : noStar e = true) (ha : SE X z W S T a e)
    (hx : x ≠ "__name__" := by decide) (hd : (x == ("__debug__" : Str)) = false := by decide) : SE X z W S T (.p1 p a) (.Call (.Name x q) [e] [] pos) := fun {σ H F G env n Q} er h => by
  refine (pe_callTy wCR hg hm hv (pa_cons (peW e) pa_nil (starEach_cons [] _ hn)) hx hd (starEach_cons [] _ hn) rfl).w (ha.use er h fun d n1 v H1 F1 G1 _ s1 er1 r1 h1 => ?_)
  obtain ⟨r, hr, hq⟩ := h1.lift
  exact hp er1 r1 hr hq
/-- isinstance(e, T) -/
theorem se_isi {p : P1} {a : ME} {e e2 : Expr} {u : V} {q pos : Pos} (hp : Pr1 X z S p (.builtin "isinstance") [u]) (hg : Gl X "isinstance") (hm : X.mg "isinstance" = none) (hn : noStar e = true) (hn2 : noStar e2 = true) (ha : SE X z W S T a e) (hu : PE X e2 (tC u)) :
    SE X z W S T (.p1 p a) (.Call (.Name "isinstance" q) [e, e2] [] pos) := fun {σ H F G env n Q} er h => by
  refine (pe_callB (id := "isinstance") wCR hg hm (by decide +kernel) (pa_cons (peW e) (pa_cons hu pa_nil (starEach_cons [] _ hn2)) (starEach_cons [e2] _ hn)) (by decide) (by decide) (starEach_cons [e2] _ hn) (starEach_plain _ (by simp [hn2]))).w (ha.use er h fun d n1 v H1 F1 G1 _ s1 er1 r1 h1 => ?_)
  obtain ⟨r, hr, hq⟩ := h1.lift
  exact hp er1 r1 hr hq
theorem se_call2 {p : P2} {a b : ME} {e e2 : Expr} {x : Str} {id : String} {q pos : Pos} (hp : Pr2C X z p (.builtin id)) (hg : Gl X x) (hm : X.mg x = none) (hv : bootBuiltins x = some (.builtin id)) (hn : noStar e = true) (hn2 : noStar e2 = true) (ha : SE X z W S T a e) (hb : SE X z W S T b e2)
    (hx : x ≠ "__name__" := by decide) (hd : (x == ("__debug__" : Str)) = false := by decide) : SE X z W S T (.p2 p a b) (.Call (.Name x q) [e, e2] [] pos) := fun {σ H F G env n Q} er h => by
  refine (pe_callB wCR hg hm hv (pa_cons (peW e) (pa_cons (peW e2) pa_nil (starEach_cons [] _ hn2)) (starEach_cons [e2] _ hn)) hx hd (starEach_cons [e2] _ hn) (starEach_plain _ (by simp [hn2]))).w (ha.use er h fun d n1 v H1 F1 G1 _ s1 er1 r1 h1 => hb.use er1 h1 fun d2 n2 v2 H2 F2 G2 _ s2 er2 r2 h2 => ?_)
  obtain ⟨r, hr, hq⟩ := h2.lift
  exact hp er2 (r1.mono s2.ff s2.gg) r2 hr hq
theorem attrBase_of {o : Expr} {name : Str} {env : Env} (h : (match o with | .Call .. => false | _ => true) = true) : attributeBase o name env (eval o env) = eval o env := by
  cases o <;> first | rfl | (simp at h)
/-- o.name(e) of a list -/
theorem se_mt {p : P2} {a b : ME} {o e : Expr} {name : Str} {id : String} {apos pos : Pos} (hp : Pr2M X z p id) (slot : Slot "list" name id) (hty : typeOf (.builtin id) = pure (.type "method_descriptor")) (hn : noStar e = true)
    (hbase : attributeBase o name X.env (eval o X.env) = eval o X.env) (hline : (apos.endLine == pos.line) = true) (ha : SE X z W S T a o) (hb : SE X z W S T b e) :
    SE X z W S T (.mt p a b) (.Call (.Attribute o name apos) [e] [] pos) := fun {σ H F G env n Q} er h => by
  refine (pe_bm PySem.F.plainAttrs_list slot hty wMR (peW o) (pa_cons (peW e) pa_nil (starEach_cons [] _ hn)) hbase (by rw [starEach_cons [] _ hn]; rfl) hline (starEach_cons [] _ hn) rfl).w (ha.use er h fun d n1 v H1 F1 G1 _ s1 er1 r1 h1 => ?_)
  cases d with
  | lst xs =>
    obtain ⟨q, vs, rfl, e1, _⟩ := lvLst er1.fg r1
    refine ⟨.inl ⟨rfl, vs, SqL.of (er1.gh _ _ e1)⟩, hb.use er1 h1 fun d2 n2 v2 H2 F2 G2 _ s2 er2 r2 h2 => ?_⟩
    obtain ⟨r, hr, hq⟩ := h2.lift
    exact hp er2 (r1.mono s2.ff s2.gg) r2 hr hq
  | _ => exact h1.elim

/-! ### the calls of defs -/
/-- the heap behind a def's call -/
structure StepC (pt : Option Addr) (H F H' F' : Hp) (n' : Nat) : Prop where
  ff : Le F F'
  fh : Le F' H'
  nf : ∀ a, F' a ≠ none → F a ≠ none ∨ H a = none
  keep : ∀ a o, H a = some o → pt ≠ some a → H' a = some o
  tw : ∀ a, pt = some a → H' a = some (.lst (List.replicate n' (.int 0))) ∧ F' a = none
def PostC (c : Cn) (H F : Hp) (o : Out D) (Q : VK) (E : XK) : Prop := match o with
  | .ok d n' => ∀ v H' F', StepC c.pt H F H' F' n' → Rep c F' v d → Q v H'
  | .ex x n' => ∀ H' F', StepC c.pt H F H' F' n' → E (.ref (He.ga c.K x)) none H'
  | .bad => False
def spOf (K : PySem.W.Frag) (k : Nat) (run : List D → Nat → Out D) : Sp := fun vs H Q E => vs.length = k ∧ ∃ (pt : Option Addr) (F : Hp) (n : Nat) (ds : List D), Le F H ∧
  (∀ a, pt = some a → H a = some (.lst (List.replicate n (.int 0))) ∧ F a = none) ∧ RepL ⟨K, pt⟩ F vs ds ∧ PostC ⟨K, pt⟩ H F (run ds n) Q E
structure FnG (P : Program) (w : World) (K : PySem.W.Frag) (mg : Str → Option Value) (base : Heap) (L : Nat) (f : Str) (k : Nat) (run : List D → Nat → Out D) : Prop where
  ex : ∃ (a : Addr) (fd : FuncData) (ps : List Str), FnOk P w K mg base (L2.CX P w) L a fd ps (spOf K k run) ∧ mg f = some (.ref a) ∧ PySem.W.keepIn K (.ref a) = true ∧ Binds K fd ps [] ∧ ps.length = k
/-- each name that tells anything is a def that keeps it -/
def TabOk (P : Program) (w : World) (K : PySem.W.Frag) (mg : Str → Option Value) (base : Heap) (L : Nat) (T : Tab) : Prop :=
  ∀ f k run, T f = some (k, run) → FnG P w K mg base L f k run
def un (F G : Hp) : Hp := fun a => match F a with
  | some o => some o
  | none => G a
theorem un_le {F G H : Hp} (a : Le F H) (b : Le G H) : Le (un F G) H := fun x o e => by
  unfold un at e
  split at e
  · rename_i u hu
    cases e
    exact a x _ hu
  · exact b x o e
theorem un_left {F G : Hp} : Le F (un F G) := fun x o e => by unfold un; rw [e]
theorem un_right {F G H : Hp} (a : Le F H) (b : Le G H) : Le G (un F G) := fun x o e => by
  unfold un
  split
  · rename_i u hu
    have h1 := a x _ hu
    have h2 := b x _ e
    rw [h1] at h2
    exact h2
  · exact e
theorem un_none {F G : Hp} {a : Addr} (h : un F G a ≠ none) : F a ≠ none ∨ G a ≠ none := by
  unfold un at h
  split at h
  · rename_i u hu
    exact .inl (by rw [hu]; simp)
  · exact .inr h
theorem StepC.toStep {H F G H' F' : Hp} {σ : St} {env : Ev} {n n' : Nat} (er : ER z σ H F G env n) (s : StepC z.pt H F H' F' n') : Step z H F G H' F' (un F' G) n' := by
  have gH : Le G H' := fun a o e => s.keep a o (er.gh a o e) fun q => by
    rw [(er.tw a q).2.1] at e
    cases e
  refine ⟨s.ff, un_right s.fh gH, un_left, un_le s.fh gH, s.nf, fun a h => ?_, fun a o h q => s.keep a o (er.h0 a o h q) q, fun a h => ?_, fun a q => ⟨(s.tw a q).1, ?_, (er.tw a q).2.2⟩⟩
  · rcases un_none h with h | h
    · rcases s.nf a h with h | h
      · exact .inl (er.fg.has h)
      · exact .inr h
    · exact .inl h
  · by_cases q : z.pt = some a
    · rw [(s.tw a q).1]; simp
    · cases e : H a with
      | none => exact absurd e h
      | some o => rw [s.keep a o e q]; simp
  · refine Classical.byContradiction fun h => ?_
    rcases un_none h with h | h
    · exact h (s.tw a q).2
    · exact h (er.tw a q).2.1
theorem StepC.toStepG {H F G H' F' : Hp} {σ : St} {env : Ev} {n n' : Nat} (er : ER z σ H F G env n) (s : StepC z.pt H G H' F' n') : Step z H F G H' F F' n' := by
  refine ⟨.rfl, s.ff, er.fg.trans s.ff, s.fh, fun a h => .inl h, s.nf, fun a o h q => s.keep a o (er.h0 a o h q) q, fun a h => ?_, fun a q => ⟨(s.tw a q).1, (s.tw a q).2, (er.tw a q).2.2⟩⟩
  by_cases q : z.pt = some a
  · rw [(s.tw a q).1]; simp
  · cases e : H a with
    | none => exact absurd e h
    | some o => rw [s.keep a o e q]; simp
theorem se_call {L : Nat} {f : Str} {as : MEs} {e : Expr} {es : List Expr} {p pos : Pos} (g : Good X z.toCn W L) (tab : TabOk X.prog X.w X.K X.mg X.base L T) (hg : Gl X f) (hd : (f == ("__debug__" : Str)) = false) (hn : (e :: es).all noStar = true) (ha : SA X z W S T as (e :: es)) :
    SE X z W S T (.call f as) (.Call (.Name f p) (e :: es) [] pos) := fun {σ H F G env n Q} er h => by
  simp only [List.all_cons, Bool.and_eq_true] at hn
  simp only [evE] at h
  cases hT : T f with
  | none => rw [hT] at h; exact h.elim
  | some kr =>
    obtain ⟨k, run⟩ := kr
    rw [hT] at h
    obtain ⟨a, fd, ps, ok, hm, hk, hbd, hps⟩ := (tab f k run hT).ex
    refine (pe_callS ok g.room hg hm hk hbd (fun σ => passAt g.tk σ) (paW _) hd (starEach_cons es _ hn.1) (starEach_plain _ hn.2)).w (ha.use er h fun ds n1 vs H1 F1 G1 s1 er1 r rf h1 => ?_)
    split at h1
    · rename_i hl
      refine ⟨by rw [r.length]; exact hl, z.pt, ?_⟩
      cases two : levA z.own as with
      | true =>
        refine ⟨F1, n1, ds, er1.fg.trans er1.gh, fun a q => ⟨(er1.tw a q).1, er1.fg.non (er1.tw a q).2.1⟩, by rw [g.K]; exact rf two, ?_⟩
        rw [g.K]
        simp only [lev, two, if_true] at h1
        revert h1
        cases run ds n1 with
        | ok d n' => exact fun h1 v H' F' st r => h1 v H' F' _ (StepC.toStep er1 st) r
        | ex c n' => exact fun h1 H' F' st => h1 H' F' _ (StepC.toStep er1 st)
        | bad => exact fun h1 => h1
      | false =>
        refine ⟨G1, n1, ds, er1.gh, fun a q => ⟨(er1.tw a q).1, (er1.tw a q).2.1⟩, by rw [g.K]; exact r, ?_⟩
        rw [g.K]
        simp only [lev, two, Bool.false_eq_true, if_false] at h1
        revert h1
        cases run ds n1 with
        | ok d n' => exact fun h1 v H' F' st r => h1 v H' F1 F' (StepC.toStepG er1 st) r
        | ex c n' => exact fun h1 H' F' st => h1 H' F1 F' (StepC.toStepG er1 st)
        | bad => exact fun h1 => h1
    · exact h1.elim
end
end L2.Ms

namespace L2.Ms
open PySem PySem.Spec PyProof.Rows Mv
section
variable {X : Cx} {z : Fx} {W : WX} {S : Sub} {T : Tab}
theorem se_neg {a : ME} {e : Expr} {pos : Pos} (ha : SE X z W S T a e) : SE X z W S T (.p1 .neg a) (.UnaryOp .USub e pos) := fun {σ H F G env n Q} er h => by
  refine (pe_un un_neg (peW e)).w (ha.use er h fun d n1 v H1 F1 G1 _ s1 er1 r1 h1 => ?_)
  obtain ⟨r, hr, hq⟩ := h1.lift
  cases d <;> simp only [sem1, reduceCtorEq, Option.some.injEq] at hr
  subst hr
  exact ⟨_, lvInt er1.fg r1, fin_same er1 (.int _) hq⟩
theorem se_rev {a : ME} {e : Expr} {k : Nat} {p1 p2 p3 pos : Pos} (ha : SE X z W S T a e) : SE X z W S T (.p1 .rev a) (.Subscript e (.Slice none none (some (.UnaryOp .USub (.Constant (.int 1) k p1) p2)) p3) pos) := fun {σ H F G env n Q} er h => by
  refine (pe_revL (peW e)).w (ha.use er h fun d n1 v H1 F1 G1 _ s1 er1 r1 h1 => ?_)
  obtain ⟨r, hr, hq⟩ := h1.lift
  cases d <;> simp only [sem1, reduceCtorEq, Option.some.injEq] at hr
  subst hr
  obtain ⟨a, vs, rfl, ea, ra, fa⟩ := lvLst er1.fg r1
  exact ⟨a, vs, rfl, SqL.of (er1.gh _ _ ea), fun p hp => fin_lst er1 hp ra.reverse (fun hl => (fa (lv_one hl)).reverse) hq⟩
theorem isN_of {n : Nat} {d r : D} {F : Hp} {v : V} (h : sem1 S .isN n d = some r) (q : Rep z.toCn F v d) : r = .bl (decide (v = .non)) := by
  cases q <;> simp only [sem1, reduceCtorEq, Option.some.injEq] at h <;> subst h <;> simp
theorem notN_of {n : Nat} {d r : D} {F : Hp} {v : V} (h : sem1 S .notN n d = some r) (q : Rep z.toCn F v d) : r = .bl (!decide (v = .non)) := by
  cases q <;> simp only [sem1, reduceCtorEq, Option.some.injEq] at h <;> subst h <;> simp
theorem se_isN {a : ME} {e : Expr} {j : Nat} {p' pos : Pos} (ha : SE X z W S T a e) : SE X z W S T (.p1 .isN a) (.Compare e [.Is] [.Constant .none j p'] pos) := fun {σ H F G env n Q} er h => by
  refine (pe_cmp (pc_isN (peW e)) (nobehind _ (by decide) (by decide))).w (ha.use er h fun d n1 v H1 F1 G1 _ s1 er1 r1 h1 => ?_)
  obtain ⟨r, hr, hq⟩ := h1.lift
  have e1 := isN_of hr (r1.g er1.fg)
  subst e1
  exact fin_same er1 (.bl _) hq
theorem se_notN {a : ME} {e : Expr} {j : Nat} {p' pos : Pos} (ha : SE X z W S T a e) : SE X z W S T (.p1 .notN a) (.Compare e [.IsNot] [.Constant .none j p'] pos) := fun {σ H F G env n Q} er h => by
  refine (pe_cmp (pc_notN (peW e)) (nobehind _ (by decide) (by decide))).w (ha.use er h fun d n1 v H1 F1 G1 _ s1 er1 r1 h1 => ?_)
  obtain ⟨r, hr, hq⟩ := h1.lift
  have e1 := notN_of hr (r1.g er1.fg)
  subst e1
  exact fin_same er1 (.bl _) hq
theorem st_isN {a : ME} {e : Expr} {j : Nat} {p' pos : Pos} (ha : SE X z W S T a e) : ST X z W S T (.p1 .isN a) (.Compare e [.Is] [.Constant .none j p'] pos) := fun {σ H F G env n Q} er h => by
  refine (pt_cmp (pc_isN (peW e)) (nobehind _ (by decide) (by decide))).w (ha.useT er h fun d n1 v H1 F1 G1 _ s1 er1 r1 h1 => ?_)
  cases hr : sem1 S .isN n1 d with
  | none => rw [hr] at h1; exact h1.elim
  | some r =>
    rw [hr] at h1
    have e1 := isN_of hr (r1.g er1.fg)
    subst e1
    exact ⟨_, rfl, h1 _ _ _ er1.refl⟩
theorem st_notN {a : ME} {e : Expr} {j : Nat} {p' pos : Pos} (ha : SE X z W S T a e) : ST X z W S T (.p1 .notN a) (.Compare e [.IsNot] [.Constant .none j p'] pos) := fun {σ H F G env n Q} er h => by
  refine (pt_cmp (pc_notN (peW e)) (nobehind _ (by decide) (by decide))).w (ha.useT er h fun d n1 v H1 F1 G1 _ s1 er1 r1 h1 => ?_)
  cases hr : sem1 S .notN n1 d with
  | none => rw [hr] at h1; exact h1.elim
  | some r =>
    rw [hr] at h1
    have e1 := notN_of hr (r1.g er1.fg)
    subst e1
    exact ⟨_, rfl, h1 _ _ _ er1.refl⟩
/-- any value as a test -/
theorem truth_of (hK : X.K = z.K) {d : D} {b : Bool} {F H : Hp} {v : V} (l : Le F H) (h : truth d = some b) (q : Rep z.toCn F v d) : TruV X.K v H b := by
  cases q with
  | non => simp only [truth, Option.some.injEq] at h; exact h.symm
  | bl c => simp only [truth, Option.some.injEq] at h; exact h.symm
  | int i => simp only [truth, Option.some.injEq] at h; exact h.symm
  | str x =>
    simp only [truth] at h
    split at h
    · rename_i hz
      simp only [Option.some.injEq] at h
      refine ⟨by rw [← line_eq]; exact hz, ?_⟩
      rw [← h]
      cases e : x.length with
      | zero => rfl
      | succ k => simp; omega
    · cases h
  | lst e r =>
    simp only [truth, Option.some.injEq] at h
    refine .inl ⟨_, SqL.of (l _ _ e), ?_⟩
    rw [← h]
    cases r <;> rfl
  | tup e r =>
    simp only [truth, Option.some.injEq] at h
    refine .inr (.inl ⟨_, SqT.of (l _ _ e), ?_⟩)
    rw [← h]
    cases r <;> rfl
  | scr e =>
    simp only [truth, Option.some.injEq] at h
    refine .inl ⟨_, by rw [hK]; exact sqL_mono l e, ?_⟩
    rw [← h]
    simp
  | exc e => simp [truth] at h
  | town e => simp [truth] at h
theorem st_tru (hK : X.K = z.K) {a : ME} {e : Expr} (he : ∀ whole, isTrue e X.env whole = (do let v ← whole; standAt e.pos; holding [v] (truthy v))) (ha : SE X z W S T a e) : ST X z W S T (.p1 .tru a) e := fun {σ H F G env n Q} er h => by
  refine (pt_truth (peW e) he).w (ha.useT er h fun d n1 v H1 F1 G1 _ s1 er1 r1 h1 => ?_)
  cases hr : sem1 S .tru n1 d with
  | none => rw [hr] at h1; exact h1.elim
  | some r =>
    rw [hr] at h1
    have hr' : (truth d).map D.bl = some r := by cases d <;> exact hr
    obtain ⟨b, hb, rfl⟩ := Option.map_eq_some_iff.mp hr'
    exact ⟨b, truth_of hK er1.gh hb (r1.g er1.fg), h1 _ _ _ er1.refl⟩
theorem range_eq (i : Int) : rgV 0 i = (List.range i.toNat).map fun k => V.int (k : Nat) := by
  unfold rgV
  have : (i - 0).toNat = i.toNat := by omega
  rw [this]
  apply List.map_congr_left
  intro k _
  simp
theorem repL_range {c : Cn} {F : Hp} (i : Int) : RepL c F (rgV 0 i) (Mv.range i) := by
  rw [range_eq]
  unfold Mv.range
  generalize List.range i.toNat = l
  induction l with
  | nil => exact .nil
  | cons k r ih => exact .cons (.int _) ih
theorem rg_ok {i : Int} (h : i ≤ (line : Nat)) (h2 : -(2 ^ 62) ≤ i) : RgOk 0 i := by
  have : (line : Nat) = 16777216 := rfl
  refine ⟨by omega, by omega, h2, by omega, by omega⟩
theorem se_rngL {a : ME} {e : Expr} {p p2 pos pos2 : Pos} (hc : X.calm = true) (hg : Gl X "list") (hm : X.mg "list" = none) (hg2 : Gl X "range") (hm2 : X.mg "range" = none) (hn : noStar e = true) (ha : SE X z W S T a e) :
    SE X z W S T (.p1 .rngL a) (.Call (.Name "list" p) [.Call (.Name "range" p2) [e] [] pos2] [] pos) := fun {σ H F G env n Q} er h => by
  refine (pe_listRg hc hg hm (prg_1 hg2 hm2 (peW e) (starEach_cons [] _ hn)) rfl).w (ha.use er h fun d n1 v H1 F1 G1 _ s1 er1 r1 h1 => ?_)
  obtain ⟨r, hr, hq⟩ := h1.lift
  cases d <;> simp only [sem1, reduceCtorEq] at hr
  split at hr <;> cases hr
  rename_i hi
  exact ⟨_, lvInt er1.fg r1, rg_ok hi.1 hi.2, fun p hp => fin_lst er1 hp (repL_range _) (fun _ => repL_range _) hq⟩
theorem se_rngT {a : ME} {e : Expr} {p p2 pos pos2 : Pos} (hc : X.calm = true) (hg : Gl X "tuple") (hm : X.mg "tuple" = none) (hg2 : Gl X "range") (hm2 : X.mg "range" = none) (hn : noStar e = true) (ha : SE X z W S T a e) :
    SE X z W S T (.p1 .rngT a) (.Call (.Name "tuple" p) [.Call (.Name "range" p2) [e] [] pos2] [] pos) := fun {σ H F G env n Q} er h => by
  refine (pe_tupRg hc hg hm (prg_1 hg2 hm2 (peW e) (starEach_cons [] _ hn)) rfl).w (ha.use er h fun d n1 v H1 F1 G1 _ s1 er1 r1 h1 => ?_)
  obtain ⟨r, hr, hq⟩ := h1.lift
  cases d <;> simp only [sem1, reduceCtorEq] at hr
  split at hr <;> cases hr
  rename_i hi
  exact ⟨_, lvInt er1.fg r1, rg_ok hi.1 hi.2, fun p hp => fin_tup er1 hp (repL_range _) (fun _ => repL_range _) hq⟩
/-! ### slices -/
theorem sIx_eq (n d : Nat) (o : Option Int) : Mv.sIx n d o = HT.sIx n d o := by
  cases o with
  | none => rfl
  | some v =>
    have h := HT.clip_eq v n d
    simp only [Mv.sIx]
    split at h <;> rename_i hv
    · rw [if_pos hv]; omega
    · rw [if_neg hv]; omega
theorem cut_eq (vs : List V) (lo hi : Option Int) : Mv.cut vs lo hi = cutV vs lo hi := by
  unfold Mv.cut cutV
  rw [sIx_eq, sIx_eq]
theorem RepL.cut {c : Cn} {F : Hp} {vs : List V} {ds : List D} (h : RepL c F vs ds) (lo hi : Option Int) : RepL c F (cutV vs lo hi) (Mv.cut ds lo hi) := by
  rw [← cut_eq]
  unfold Mv.cut
  rw [h.length]
  exact (h.drop _).take _
def wO (X : Cx) (e : Option Expr) : TO := fun σ H Q => ∀ (pins : List (Addr × Obj)) (s : Shared), Inv X pins σ H s → wpAny (model X.prog X.w) X.A (evalPart e X.env) (fun u s' => ∃ o H', Inv X pins σ H' s' ∧ IsPart u o ∧ Q o H') X.xe s
theorem poW (e : Option Expr) : PO X e (wO X e) := ⟨fun pins s σ H Q I h => h pins s I⟩
theorem _root_.L2.PO.w {e : Option Expr} {t : TO} (h : PO X e t) {σ : St} {H : Hp} {Q : Option Int → Hp → Prop} (q : t σ H Q) : wO X e σ H Q := fun pins s I => h.run pins s σ H Q I q
/-- a slice's part -/
def SPt (X : Cx) (z : Fx) (W : WX) (S : Sub) (T : Tab) (l : ME) (lo : Option Expr) : Prop := (lo = none ∧ isAbs l = true) ∨ ∃ e1, lo = some e1 ∧ SE X z W S T l e1 ∧ isAbs l = false
theorem SPt.use {l : ME} {lo : Option Expr} (hp : SPt X z W S T l lo) {σ : St} {H F G : Hp} {env : Ev} {n : Nat} (er : ER z σ H F G env n) {f : Option Int → Nat → Out D} {lv : Nat} {Q : VK} {Q1 : Option Int → Hp → Prop}
    (h : PostE z W σ H F G lv ((evE S T l env n).bind fun l1 n => (Out.lift (partOf (isAbs l) l1) n).bind f) Q)
    (k : ∀ o n1 H1 F1 G1, Step z H F G H1 F1 G1 n1 → ER z σ H1 F1 G1 env n1 → PostE z W σ H1 F1 G1 lv (f o n1) Q → Q1 o H1) : wO X lo σ H Q1 := by
  rcases hp with ⟨rfl, ha⟩ | ⟨e1, rfl, hs, ha⟩
  · refine po_none.w ?_
    have e : ∃ d, l = .c d := by
      cases l with
      | c d => exact ⟨d, rfl⟩
      | _ => simp [isAbs] at ha
    obtain ⟨d, rfl⟩ := e
    rw [ha] at h
    exact k none n H F G er.refl er h
  · refine (po_some (peW e1)).w (hs.use er h fun d n1 v H1 F1 G1 _ s1 er1 r1 h1 => ?_)
    rw [ha] at h1
    cases d with
    | int i => exact ⟨i, lvInt er1.fg r1, k (some i) n1 H1 F1 G1 s1 er1 h1⟩
    | _ => exact h1.elim
theorem se_sl {a l u : ME} {e : Expr} {lo hi : Option Expr} {p2 pos : Pos} (ha : SE X z W S T a e) (hlo : SPt X z W S T l lo) (hhi : SPt X z W S T u hi) : SE X z W S T (.sl a l u) (.Subscript e (.Slice lo hi none p2) pos) := fun {σ H F G env n Q} er h => by
  have main : ∀ {r : V → Option Int → Option Int → Hp → VK → Prop}, SlR X r → (∀ d n1 v H1 F1 G1 o1 o2 H3 F3 G3 n3, evE S T a env n = .ok d n1 → RepLv z.toCn (lev z.own a) F1 G1 v d → Step z H1 F1 G1 H3 F3 G3 n3 → ER z σ H3 F3 G3 env n3 → PostE z W σ H3 F3 G3 (lev z.own (.sl a l u)) (.lift (semSl d o1 o2) n3) Q → r v o1 o2 H3 Q) → wE X (.Subscript e (.Slice lo hi none p2) pos) σ H Q := fun {r} hr k => by
    refine (pe_slice hr (peW e) (poW lo) (poW hi)).w (ha.use er h fun d n1 v H1 F1 G1 e1 s1 er1 r1 h1 => ?_)
    refine hlo.use er1 h1 fun o1 n2 H2 F2 G2 s2 er2 h2 => ?_
    exact hhi.use er2 h2 fun o2 n3 H3 F3 G3 s3 er3 h3 => k d n1 v H1 F1 G1 o1 o2 H3 F3 G3 n3 e1 r1 (s2.trans s3) er3 h3
  cases h1 : evE S T a env n with
  | ok d0 n0 =>
    cases d0 with
    | lst xs =>
      refine main sl_list fun d n1 v H1 F1 G1 o1 o2 H3 F3 G3 n3 e1 r1 st er3 h3 => ?_
      rw [h1] at e1
      cases e1
      obtain ⟨r, hr, hq⟩ := h3.lift
      simp only [semSl, Option.some.injEq] at hr
      subst hr
      obtain ⟨b, vs, rfl, ea, ra, fa⟩ := lvLst er3.fg (r1.mono st.ff st.gg)
      exact ⟨b, vs, rfl, SqL.of (er3.gh _ _ ea), fun p hp => fin_lst er3 hp (ra.cut o1 o2) (fun hl => (fa (lv_one hl)).cut o1 o2) hq⟩
    | tup xs =>
      refine main sl_tupA fun d n1 v H1 F1 G1 o1 o2 H3 F3 G3 n3 e1 r1 st er3 h3 => ?_
      rw [h1] at e1
      cases e1
      obtain ⟨r, hr, hq⟩ := h3.lift
      simp only [semSl, Option.some.injEq] at hr
      subst hr
      have r3 := r1.mono st.ff st.gg
      obtain ⟨b, vs, rfl, ea, ra, fa⟩ := lvTup er3.fg r3
      refine ⟨b, vs, rfl, SqT.of (er3.gh _ _ ea), fun hw => ?_, fun _ p hp => fin_tup er3 hp (ra.cut o1 o2) (fun hl => (fa (lv_one hl)).2.cut o1 o2) hq⟩
      have same : cut xs o1 o2 = xs := by
        unfold cut
        rw [sIx_eq, sIx_eq, ← ra.length, hw.1, hw.2, ra.length]
        simp
      rw [same] at hq
      refine hq _ _ _ _ er3.refl ?_
      match h9 : lev z.own (.sl a l u) with
      | 0 => exact Rep.tup ea ra
      | k + 1 =>
        have t := fa (lv_one (l := lev z.own a) (by simp only [lev] at h9; rw [h9]; omega))
        exact Rep.lv er3.fg _ (.tup t.1 t.2)
    | str x =>
      refine main sl_str fun d n1 v H1 F1 G1 o1 o2 H3 F3 G3 n3 e1 r1 st er3 h3 => ?_
      rw [h1] at e1
      cases e1
      obtain ⟨r, hr, hq⟩ := h3.lift
      simp only [semSl] at hr
      split at hr <;> cases hr
      rename_i hz
      refine ⟨x, lvStr er3.fg (r1.mono st.ff st.gg), by rw [← line_eq]; exact hz, ?_⟩
      have e : (⟨(cut x.cps.toList o1 o2).toArray⟩ : Str) = cutS x o1 o2 := by
        unfold cut cutS
        rw [sIx_eq, sIx_eq, Array.length_toList]
        rfl
      rw [e] at hq
      exact fin_same er3 (.str _) hq
    | _ =>
      refine main sl_list fun d n1 v H1 F1 G1 o1 o2 H3 F3 G3 n3 e1 r1 st er3 h3 => ?_
      rw [h1] at e1
      cases e1
      exact h3.elim
  | ex c n1 =>
    refine main sl_list fun d n1 v H1 F1 G1 o1 o2 H3 F3 G3 n3 e1 r1 st er3 h3 => ?_
    rw [h1] at e1
    cases e1
  | bad =>
    refine main sl_list fun d n1 v H1 F1 G1 o1 o2 H3 F3 G3 n3 e1 r1 st er3 h3 => ?_
    rw [h1] at e1
    cases e1
end
end L2.Ms

namespace L2.Ms
open PySem PySem.Spec PyProof.Rows Mv

/-! ### what is walked -/
/-- J walks xs, as long as A stands; the items lie in F -/
structure Wk (c : Cn) (J : It) (xs : List D) (A F : Hp) : Prop where
  go : ∀ (i : Nat) (H : Hp), Le A H → i < xs.length → J.go i H
  yld : ∀ (i : Nat) (H : Hp) (x : V) (H' : Hp), Le A H → i < xs.length → J.yld i H x H' → H' = H ∧ ∃ d, xs[i]? = some d ∧ Rep c F x d
  stop : ∀ (i : Nat) (H : Hp), Le A H → xs.length ≤ i → J.stop i H
def PostI (z : Fx) (W : WX) (σ : St) (H F G : Hp) (two : Bool) (o : Out (List D)) (R : It → Hp → Prop) : Prop := match o with
  | .ok xs n' => ∀ J H' F' G', Step z H F G H' F' G' n' → Wk z.toCn J xs (if two = true then F' else G') F' → xs.length ≤ sizeLine → R J H'
  | .ex c n' => ∀ H' F' G', Step z H F G H' F' G' n' → W (.ref (He.ga z.K c)) none σ H'
  | .bad => False
def SI (X : Cx) (z : Fx) (W : WX) (S : Sub) (T : Tab) (mi : MI) (tg it : Expr) : Prop := ∀ {σ : St} {H F G : Hp} {env : Ev} {n : Nat} {R : It → Hp → Prop}, ER z σ H F G env n → PostI z W σ H F G (decide (2 ≤ levI z.own mi)) (evI S T mi env n) R → wI X tg it σ H R
section
variable {X : Cx} {z : Fx} {W : WX} {S : Sub} {T : Tab} {σ : St} {H F G : Hp} {env : Ev} {n : Nat}
theorem wk_list {c : Cn} {K : PySem.W.Frag} {a : Addr} {vs : List V} {ds : List D} {A F : Hp} (e : A a = some (.lst vs)) (r : RepL c F vs ds) : Wk c (Itl K a) ds A F where
  go := fun i H l h => by
    obtain ⟨v, hv, _⟩ := r.get (i := i) (d := ds[i]) (by simp [h])
    exact ⟨vs, v, SqL.of (l _ _ e), hv⟩
  yld := fun i H x H' l _ h => by
    obtain ⟨e1, y⟩ := h
    exact ⟨e1, r.getV (y vs (SqL.of (l _ _ e)))⟩
  stop := fun i H l h => ⟨vs, SqL.of (l _ _ e), by rw [r.length]; exact h⟩
theorem wk_tup {c : Cn} {K : PySem.W.Frag} {a : Addr} {vs : List V} {ds : List D} {A F : Hp} (e : A a = some (.tup vs)) (r : RepL c F vs ds) : Wk c (Itt K a) ds A F where
  go := fun i H l h => by
    obtain ⟨v, hv, _⟩ := r.get (i := i) (d := ds[i]) (by simp [h])
    exact ⟨vs, v, SqT.of (l _ _ e), hv⟩
  yld := fun i H x H' l _ h => by
    obtain ⟨e1, y⟩ := h
    exact ⟨e1, r.getV (y vs (SqT.of (l _ _ e)))⟩
  stop := fun i H l h => ⟨vs, SqT.of (l _ _ e), by rw [r.length]; exact h⟩
theorem wk_range {c : Cn} {A F : Hp} (i : Int) : Wk c (Itr 0 i.toNat) (Mv.range i) A F where
  go := fun k H l h => show k < i.toNat by simpa only [Mv.range, List.length_map, List.length_range] using h
  yld := fun k H x H' l hk h => by
    obtain ⟨e1, e2⟩ := h
    have hk' : k < i.toNat := by simpa only [Mv.range, List.length_map, List.length_range] using hk
    refine ⟨e1, .int (k : Nat), ?_, ?_⟩
    · unfold Mv.range
      rw [List.getElem?_map, List.getElem?_range hk']
      rfl
    · rw [e2, Int.zero_add]
      exact .int _
  stop := fun k H l h => show i.toNat ≤ k by simpa only [Mv.range, List.length_map, List.length_range] using h
theorem si_rg {a : ME} {tg e : Expr} {p pos : Pos} (hg : Gl X "range") (hm : X.mg "range" = none) (hn : noStar e = true) (ha : SE X z W S T a e) : SI X z W S T (.rg a) tg (.Call (.Name "range" p) [e] [] pos) := fun {σ H F G env n R} er h => by
  refine (pi_range1 hg hm (pa_cons (peW e) pa_nil (starEach_cons [] _ hn)) (starEach_cons [] _ hn)).w (ha er ?_)
  simp only [evI] at h
  cases h1 : evE S T a env n with
  | ok d n1 =>
    rw [h1] at h
    intro v H1 F1 G1 s1 r1
    cases d with
    | int i =>
      rw [Out.bind_ok] at h
      dsimp only at h
      split at h
      · rename_i hi
        have hl : (line : Nat) = 16777216 := rfl
        refine ⟨i, by rw [lvInt s1.fg r1], hi.2, by omega, h _ _ _ _ s1 (wk_range i) ?_⟩
        have : (Mv.range i).length = i.toNat := by simp [Mv.range]
        rw [this, ← line_eq]
        omega
      · exact h.elim
    | _ => exact h.elim
  | ex c n1 => rw [h1] at h; exact h
  | bad => rw [h1] at h; exact h
theorem pie_list {pins : List (Addr × Obj)} {s1 : Shared} {tg : Expr} {a : Addr} {vs : List V} {R : It → Hp → Prop} (I : Inv X pins σ H s1) (hq : SqL X.K H a vs) (q : R (Itl X.K a) H) : wpAny (model X.prog X.w) X.A (pyIter (.ref a)) (PIE X pins σ tg R) X.xe s1 := by
  obtain ⟨its, _, pl, _⟩ := I.list hq
  refine wpAny_pyIter_list pl.isList ⟨s1.heap.objs.size, [s1.heap.objs.size], _, _, H, rfl, I.kept (t' := s1.toks) fun _ _ e => Heap.get?_push_of_some _ e, turn_list a _, ⟨_, Heap.get?_push_size _ rfl, rfl, rfl⟩, fun b hb => ?_, q⟩
  obtain rfl : b = s1.heap.objs.size := by simpa using hb
  exact I.fpOk (Nat.le_refl _) (I.hok.fresh (Nat.le_refl _))
theorem pie_tup {pins : List (Addr × Obj)} {s1 : Shared} {tg : Expr} {a : Addr} {vs : List V} {R : It → Hp → Prop} (I : Inv X pins σ H s1) (hq : SqT X.K H a vs) (q : R (Itt X.K a) H) : wpAny (model X.prog X.w) X.A (pyIter (.ref a)) (PIE X pins σ tg R) X.xe s1 := by
  obtain ⟨its, _, pl, _⟩ := I.tuple hq
  refine wpAny_pyIter_tuple (show s1.heap.IsTuple a its.toArray from pl) ⟨s1.heap.objs.size, [s1.heap.objs.size], _, _, H, rfl, I.kept (t' := s1.toks) fun _ _ e => Heap.get?_push_of_some _ e, turn_tuple a _, ⟨_, Heap.get?_push_size _ rfl, rfl, rfl⟩, fun b hb => ?_, q⟩
  obtain rfl : b = s1.heap.objs.size := by simpa using hb
  exact I.fpOk (Nat.le_refl _) (I.hok.fresh (Nat.le_refl _))
theorem si_sq {a : ME} {tg e : Expr} (hl : 1 ≤ lev z.own a) (ha : SE X z W S T a e) : SI X z W S T (.sq a) tg e := fun {σ H F G env n R} er h => by
  intro pins s I
  simp only [evI] at h
  refine thn (ha (Q := fun x H1 => ∃ d n1 F1 G1, evE S T a env n = .ok d n1 ∧ Step z H F G H1 F1 G1 n1 ∧ RepLv z.toCn (lev z.own a) F1 G1 x d) er ?_ pins s I) fun v s1 hh => ?_
  · cases h1 : evE S T a env n with
    | ok d n1 => exact fun v H1 F1 G1 st r => ⟨d, n1, F1, G1, rfl, st, r⟩
    | ex c n1 => rw [h1] at h; exact h
    | bad => rw [h1] at h; exact h
  · obtain ⟨x, H1, I1, rx, d, n1, F1, G1, h1, st, r⟩ := hh
    rw [h1] at h
    have er1 := er.step st
    cases d with
    | lst ds =>
      obtain ⟨b, vs, rfl, eb, rb, fb⟩ := lvLst st.fg r
      cases rx
      have hq : SqL X.K H1 b vs := SqL.of (er1.gh _ _ eb)
      obtain ⟨_, _, _, hz⟩ := I1.list hq
      refine pie_list I1 hq (h _ _ _ _ st ?_ (by rw [← (fb hl).length]; exact hz))
      by_cases h2 : 2 ≤ lev z.own a
      · simp only [levI, h2, decide_true, if_true]
        obtain ⟨b', vs', e1, e2, r2⟩ := (r.two h2).lstE
        cases e1
        exact wk_list e2 r2
      · simp only [levI, h2, decide_false, Bool.false_eq_true, if_false]
        exact wk_list eb (fb hl)
    | tup ds =>
      obtain ⟨b, vs, rfl, eb, rb, fb⟩ := lvTup st.fg r
      cases rx
      have hq : SqT X.K H1 b vs := SqT.of (er1.gh _ _ eb)
      obtain ⟨_, _, _, hz⟩ := I1.tuple hq
      refine pie_tup I1 hq (h _ _ _ _ st ?_ (by rw [← (fb hl).2.length]; exact hz))
      by_cases h2 : 2 ≤ lev z.own a
      · simp only [levI, h2, decide_true, if_true]
        exact wk_tup (fb hl).1 (fb hl).2
      · simp only [levI, h2, decide_false, Bool.false_eq_true, if_false]
        exact wk_tup eb (fb hl).2
    | _ => exact h.elim

/-! ### targets -/
def gOf (K : PySem.W.Frag) : List Nat → TG
  | [i] => gName i
  | [i, j] => gTup K 2 (gCons (gName i) (gCons (gName j) gNil))
  | [i, j, k] => gTup K 3 (gCons (gName i) (gCons (gName j) (gCons (gName k) gNil)))
  | _ => fun _ _ _ _ => False
theorem ER.set {i : Nat} {v : V} {d : D} (er : ER z σ H F G env n) (ho : z.own i = false) (r : Rep z.toCn F v d) : ER z (σ.set i (some v)) H F G (env.set i (some d)) n where
  fg := er.fg
  gh := er.gh
  h0 := er.h0
  tw := er.tw
  val := fun j e he hj => by
    by_cases q : i = j
    · subst q
      have hlt : i < env.length := by
        have := (List.getElem?_eq_some_iff.mp he).1
        simpa using this
      rw [List.getElem?_set_self hlt] at he
      simp only [Option.some.injEq] at he
      subst he
      exact ⟨v, by rw [List.getElem?_set_self (by rw [← er.len]; exact hlt)], r⟩
    · rw [List.getElem?_set_ne q] at he ⊢
      exact er.val j e he hj
  ow := fun j e he hj => by
    have q : i ≠ j := fun q => by subst q; rw [ho] at hj; cases hj
    rw [List.getElem?_set_ne q] at he ⊢
    exact er.ow j e he hj
  dis := fun j k d' e p hne hj hk h1 h2 h3 => by
    have q1 : i ≠ j := fun q => by subst q; rw [ho] at hj; cases hj
    have q2 : i ≠ k := fun q => by subst q; rw [ho] at hk; cases hk
    rw [List.getElem?_set_ne q1] at h1 h3
    rw [List.getElem?_set_ne q2] at h2 ⊢
    exact er.dis j k d' e p hne hj hk h1 h2 h3
  len := by simp [er.len]
theorem gOf_ok (hK : X.K = z.K) {tg : List Nat} {v : V} {d : D} {env1 : Ev} {Q : St → Hp → Prop} (er : ER z σ H F G env n) (ho : ∀ i ∈ tg, z.own i = false) (r : Rep z.toCn F v d) (hb : bindT tg d env = some env1) (hq : ∀ σ1, ER z σ1 H F G env1 n → (∀ i, i ∉ tg → σ1[i]? = σ[i]?) → σ1.length = σ.length → Q σ1 H) :
    gOf X.K tg v σ H Q := by
  unfold bindT at hb
  split at hb
  · rename_i i
    cases hb
    exact hq _ (er.set (ho i (by simp)) r) (fun j hj => List.getElem?_set_ne (fun q => hj (by simp [q]))) (by simp)
  · rename_i i j
    split at hb
    · rename_i x y
      cases hb
      obtain ⟨a, vs, rfl, ea, ra⟩ := r.tupE
      cases ra with
      | cons rx t =>
        cases t with
        | cons ry t =>
          cases t
          refine ⟨a, _, rfl, SqT.of (er.fg.trans er.gh _ _ ea), rfl, _, _, rfl, _, _, rfl, rfl, ?_⟩
          exact hq _ ((er.set (ho i (by simp)) rx).set (ho j (by simp)) ry) (fun k hk => by
            simp only [List.mem_cons, List.not_mem_nil, or_false, not_or] at hk
            rw [List.getElem?_set_ne (fun q => hk.2 q.symm), List.getElem?_set_ne (fun q => hk.1 q.symm)]) (by simp)
    · cases hb
  · rename_i i j k
    split at hb
    · rename_i x y w
      cases hb
      obtain ⟨a, vs, rfl, ea, ra⟩ := r.tupE
      cases ra with
      | cons rx t =>
        cases t with
        | cons ry t =>
          cases t with
          | cons rz t =>
            cases t
            refine ⟨a, _, rfl, SqT.of (er.fg.trans er.gh _ _ ea), rfl, _, _, rfl, _, _, rfl, _, _, rfl, rfl, ?_⟩
            exact hq _ (((er.set (ho i (by simp)) rx).set (ho j (by simp)) ry).set (ho k (by simp)) rz) (fun m hk => by
              simp only [List.mem_cons, List.not_mem_nil, or_false, not_or] at hk
              rw [List.getElem?_set_ne (fun q => hk.2.2 q.symm), List.getElem?_set_ne (fun q => hk.2.1 q.symm), List.getElem?_set_ne (fun q => hk.1 q.symm)]) (by simp)
    · cases hb
  · cases hb
end
end L2.Ms

namespace L2.Ms
open PySem PySem.Spec PyProof.Rows Mv
theorem wipeD_some {env : Ev} {i : Nat} {x : D} : ∀ {vs : List Nat}, (wipeD env vs)[i]? = some (some x) → env[i]? = some (some x) ∧ i ∉ vs
  | [], h => ⟨h, by simp⟩
  | v :: vs, h => by
    unfold wipeD at h
    by_cases hi : v = i
    · subst hi
      by_cases hv : v < (wipeD env vs).length
      · rw [List.getElem?_set_self hv] at h; cases h
      · rw [List.getElem?_eq_none (by simpa using hv)] at h; cases h
    · rw [List.getElem?_set_ne hi] at h
      obtain ⟨h1, h2⟩ := wipeD_some h
      exact ⟨h1, fun q => (List.mem_cons.mp q).elim (fun q => hi q.symm) h2⟩
theorem wipeD_length (env : Ev) : ∀ vs : List Nat, (wipeD env vs).length = env.length
  | [] => rfl
  | v :: vs => by unfold wipeD; rw [List.length_set, wipeD_length env vs]
theorem wipe_in {σ : St} {i : Nat} : ∀ {vs : List Nat}, i ∈ vs → i < σ.length → (wipe σ vs)[i]? = some none
  | [], h, _ => by cases h
  | v :: vs, h, hl => by
    unfold wipe
    by_cases hi : v = i
    · subst hi
      rw [List.getElem?_set_self (by rw [wipe_length]; exact hl)]
    · rw [List.getElem?_set_ne hi]
      exact wipe_in ((List.mem_cons.mp h).resolve_left fun q => hi q.symm) hl
theorem wipe_eq {σ τ : St} {vs : List Nat} (h : ∀ i, i ∉ vs → τ[i]? = σ[i]?) (hl : τ.length = σ.length) : wipe τ vs = wipe σ vs := by
  apply List.ext_getElem?
  intro i
  by_cases hi : i ∈ vs
  · by_cases hlt : i < σ.length
    · rw [wipe_in hi hlt, wipe_in hi (by rw [hl]; exact hlt)]
    · rw [List.getElem?_eq_none (by rw [wipe_length, hl]; omega), List.getElem?_eq_none (by rw [wipe_length]; omega)]
  · rw [wipe_out hi, wipe_out hi]; exact h i hi
theorem gather_noex {f : D → Nat → Out (Option D)} : ∀ (xs : List D) (n : Nat) (c : Str) (n' : Nat), gather f xs n ≠ .ex c n'
  | [], n, c, n' => fun h => by cases h
  | x :: r, n, c, n' => fun h => by
    unfold gather at h
    split at h
    · split at h <;> cases h
    · cases h
/-- the block's own view -/
def Fx.blk (z : Fx) (H : Hp) (tg : List Nat) : Fx := { z with H0 := H, own := fun i => z.own i && !tg.contains i }
section
variable {X : Cx} {z : Fx} {W : WX} {S : Sub} {T : Tab} {σ : St} {H F G H1 F1 G1 H2 F2 G2 : Hp} {env : Ev} {n n1 n2 : Nat}
theorem ER.blk (er : ER z σ H F G env n) (tg : List Nat) : ER (z.blk H tg) (wipe σ tg) H F G (wipeD env tg) n where
  fg := er.fg
  gh := er.gh
  h0 := fun _ _ e _ => e
  tw := fun a q => ⟨(er.tw a q).1, (er.tw a q).2.1, by rw [show (z.blk H tg).H0 = H from rfl, (er.tw a q).1]; simp⟩
  val := fun i d h ho => by
    obtain ⟨h1, h2⟩ := wipeD_some h
    rw [wipe_out h2]
    refine er.val i d h1 ?_
    have : (z.own i && !tg.contains i) = false := ho
    simpa [h2] using this
  ow := fun i d h ho => by
    obtain ⟨h1, h2⟩ := wipeD_some h
    rw [wipe_out h2]
    have : (z.own i && !tg.contains i) = true := ho
    simp only [Bool.and_eq_true] at this
    exact er.ow i d h1 this.1
  dis := fun i j d e p hne hi hj h1 h2 h3 => by
    obtain ⟨a1, a2⟩ := wipeD_some h1
    obtain ⟨b1, b2⟩ := wipeD_some h2
    rw [wipe_out a2] at h3
    rw [wipe_out b2]
    have hi : (z.own i && !tg.contains i) = true := hi
    have hj : (z.own j && !tg.contains j) = true := hj
    simp only [Bool.and_eq_true] at hi hj
    exact er.dis i j d e p hne hi.1 hj.1 a1 b1 h3
  len := by rw [wipeD_length, wipe_length]; exact er.len
/-- steps in the block are steps -/
theorem Step.unblk {tg : List Nat} (s : Step z H F G H1 F1 G1 n1) (t : Step (z.blk H1 tg) H1 F1 G1 H2 F2 G2 n2) : Step z H F G H2 F2 G2 n2 := by
  refine Step.trans s ⟨t.ff, t.gg, t.fg, t.gh, t.nf, t.ng, fun a o h q => t.h0 a o (s.h0 a o h q) q, t.dom, fun a q => ⟨(t.tw a q).1, (t.tw a q).2.1, (s.tw a q).2.2⟩⟩
theorem Step.put (s : Step z H F G H1 F1 G1 n1) {p : Addr} {o : HO} (hg : G1 p = none) (h0 : z.H0 p = none) (ht : z.pt ≠ some p) : Step z H F G (upd H1 p o) F1 G1 n1 where
  ff := s.ff
  gg := s.gg
  fg := s.fg
  gh := s.gh.right hg
  nf := s.nf
  ng := s.ng
  h0 := fun a u h q => by rw [upd_ne (ne_of_none h h0)]; exact s.h0 a u h q
  dom := fun a h => by
    by_cases e : a = p
    · subst e; rw [upd_same]; simp
    · rw [upd_ne e]; exact s.dom a h
  tw := fun a q => by
    have e : a ≠ p := fun e => ht (e ▸ q)
    rw [upd_ne e]; exact s.tw a q
def W0 : WX := fun _ _ _ _ => False
def tUE (z : Fx) (S : Sub) (T : Tab) (tg : List Nat) (e : ME) : TE := fun σ H Q => ∃ H0 F G env n, ER (z.blk H0 tg) σ H F G env n ∧ PostE (z.blk H0 tg) W0 σ H F G (lev (z.blk H0 tg).own e) (evE S T e env n) Q
def tUT (z : Fx) (S : Sub) (T : Tab) (tg : List Nat) (e : ME) : TT := fun σ H Q => ∃ H0 F G env n, ER (z.blk H0 tg) σ H F G env n ∧ PostT (z.blk H0 tg) W0 σ H F G (evE S T e env n) Q
/-- an expression whose value may go straight to a name -/
def SL (X : Cx) (z : Fx) (W : WX) (S : Sub) (T : Tab) (me : ME) (e : Expr) : Prop := ∃ t : TE, PE X e t ∧
  (∀ (i : Nat) (y : Str) (py spos : Pos), X.N[i]? = some y → X.env.scope.names.lookup y = some .local → swapsWith e (some (.Name y py)) spos.line X.env = pure true → PS X (.Assign [.Name y py] e spos) (tAsg t (gName i))) ∧
  (∀ (σ : St) (H F G : Hp) (env : Ev) (n : Nat) (Q : VK), ER z σ H F G env n → PostE z W σ H F G (lev z.own me) (evE S T me env n) Q → t σ H Q) ∧
  (∀ (σ : St) (H F G : Hp) (env : Ev) (n : Nat) (Q : VK), 2 ≤ lev z.own me → ER z σ H F G env n → PostF z W σ H F G (evE S T me env n) Q → t σ H Q)
theorem SL.se {me : ME} {e : Expr} (h : SL X z W S T me e) : SE X z W S T me e := fun {σ H F G env n Q} er p => by
  obtain ⟨t, h1, _, h3, _⟩ := h
  exact h1.w (h3 σ H F G env n Q er p)
/-- the turns of a comprehension -/
theorem lc_loop {L : Nat} (g : Good X z.toCn W L) {tg : List Nat} {two : Bool} {t e : ME} {xs ys : List D} {n3 : Nat} {J : It} {Q : VK} (er1 : ER z σ H1 F1 G1 env n1) (wk : Wk z.toCn J xs (if two = true then F1 else G1) F1) (hlen : xs.length ≤ sizeLine)
    (h3 : gather (turnL (fun x => bindT tg x (wipeD env tg)) (evE S T t) (evE S T e)) xs n1 = .ok ys n3)
    (k : ∀ D, H1 D = none → ∀ H2 F2 G2 accV, Step z H1 F1 G1 H2 F2 G2 n3 → H2 D = some (.lst accV) → G2 D = none → RepL z.toCn G2 accV ys → (2 ≤ lev (fun i => z.own i && !tg.contains i) e → RepL z.toCn F2 accV ys) → Q (.ref D) H2) :
    ∀ D, H1 D = none → ∃ W : Nat → Nat → Hp → Prop, (∃ m, W 0 m (upd H1 D (.lst []))) ∧ ∀ i m H, W i m H →
      (J.stop i H ∧ Q (.ref D) H) ∨ (J.go i H ∧ ∃ Nx : Hp → Prop, (∀ H', Nx H' → ∃ m', m' < m ∧ W (i + 1) m' H') ∧ ∀ x H', J.yld i H x H' → gOf X.K tg x (wipe σ tg) H' fun σ2 H2 => wipe σ2 tg = wipe σ tg ∧ tUT z S T tg t σ2 H2 fun b H3 =>
        if b = true then tUE z S T tg e σ2 H3 fun y H4 => ∃ acc, H4 D = some (.lst acc) ∧ acc.length < sizeLine ∧ Nx (upd H4 D (.lst (acc ++ [y]))) else Nx H3) := by
  generalize hf : turnL (fun x => bindT tg x (wipeD env tg)) (evE S T t) (evE S T e) = f at h3
  intro D hD
  have hDt : z.pt ≠ some D := er1.notTown hD
  have hD0 : z.H0 D = none := er1.free0 hD
  let Wp : Nat → Nat → Hp → Prop := fun i m H2 => m = xs.length - i ∧ i ≤ xs.length ∧ ∃ F2 G2 n2 accV acc ys2, Step z H1 F1 G1 H2 F2 G2 n2 ∧ H2 D = some (.lst accV) ∧ G2 D = none ∧ RepL z.toCn G2 accV acc ∧
    (2 ≤ lev (fun i => z.own i && !tg.contains i) e → RepL z.toCn F2 accV acc) ∧ acc.length ≤ i ∧ gather f (xs.drop i) n2 = .ok ys2 n3 ∧ ys = acc ++ ys2
  refine ⟨Wp, ⟨xs.length, by simp, Nat.zero_le _, F1, G1, n1, [], [], ys, er1.refl.newH er1.dom0 hD, upd_same, er1.gh.non hD, .nil, fun _ => .nil, by simp, by simpa using h3, rfl⟩, ?_⟩
  rintro i m H2 ⟨rfl, hi, F2, G2, n2, accV, acc, ys2, st, hH2, hG2, rg, rf, hacc, hga, hys⟩
  have er2 := er1.step st
  have leA : Le (if two = true then F1 else G1) H2 := by
    split
    · exact (er1.fg.trans st.gg).trans er2.gh
    · exact st.gg.trans er2.gh
  by_cases hlt : i < xs.length
  · refine .inr ⟨wk.go i H2 leA hlt, fun H' => Wp (i + 1) (xs.length - (i + 1)) H', fun H' p => ⟨_, by omega, p⟩, fun x H' y => ?_⟩
    obtain ⟨rfl, d, hd, rx⟩ := wk.yld i H2 x _ leA hlt y
    have hdrop : xs.drop i = d :: xs.drop (i + 1) := by
      rw [List.drop_eq_getElem_cons hlt]
      rw [List.getElem?_eq_getElem hlt] at hd
      cases hd
      rfl
    rw [hdrop] at hga
    unfold gather at hga
    split at hga
    · rename_i o n2' hfd
      split at hga
      · rename_i ys3 n4 hg3
        cases hga
        rw [← hf] at hfd
        unfold turnL at hfd
        split at hfd
        · rename_i env1 hb
          have erb := er2.blk tg
          have hown : ∀ k ∈ tg, (z.blk H' tg).own k = false := fun k hk => by
            show (z.own k && !tg.contains k) = false
            simp [hk]
          refine gOf_ok (z := z.blk H' tg) (by rw [g.K]; rfl) erb hown (rx.mono st.ff) hb fun σ1 er3 hoff hlen1 => ⟨?_, ?_⟩
          · exact (wipe_eq hoff hlen1).trans (wipe_eq (fun j hj => wipe_out hj) (wipe_length _ _))
          · refine ⟨H', F2, G2, env1, n2, er3, ?_⟩
            split at hfd
            · rename_i n2a hta
              rw [hta]
              intro H3 F3 G3 s3
              rw [if_pos rfl]
              split at hfd
              · rename_i y' n2b hea
                cases hfd
                refine ⟨H', F3, G3, env1, n2a, er3.step s3, ?_⟩
                rw [hea]
                intro v H4 F4 G4 s4 rv
                have s34 := s3.trans s4
                have st4 := Step.unblk st s34
                have hD4 : H4 D = some (.lst accV) := s34.h0 D _ hH2 hDt
                have hG4 : G4 D = none := Classical.byContradiction fun q => by
                  rcases s34.ng D q with q | q
                  · exact q hG2
                  · rw [hH2] at q; cases q
                refine ⟨accV, hD4, by rw [rg.length]; omega, rfl, hlt, F4, G4, _, accV ++ [v], acc ++ [y'], ys3, st4.put hG4 hD0 hDt, upd_same, hG4, (rg.mono s34.gg).append (.cons (rv.g s4.fg) .nil), fun h2 => ((rf h2).mono s34.ff).append (.cons (rv.two h2) .nil), by simp; omega, hg3, by simpa using hys⟩
              · cases hfd
            · rename_i n2a hta
              cases hfd
              rw [hta]
              intro H3 F3 G3 s3
              rw [if_neg Bool.false_ne_true]
              have st4 := Step.unblk st s3
              have hD4 : H3 D = some (.lst accV) := s3.h0 D _ hH2 hDt
              have hG4 : G3 D = none := Classical.byContradiction fun q => by
                rcases s3.ng D q with q | q
                · exact q hG2
                · rw [hH2] at q; cases q
              exact ⟨rfl, hlt, F3, G3, _, accV, acc, ys3, st4, hD4, hG4, rg.mono s3.gg, fun h2 => (rf h2).mono s3.ff, by omega, hg3, hys⟩
            · cases hfd
        · cases hfd
      · cases hga
    · cases hga
  · refine .inl ⟨wk.stop i H2 leA (by omega), ?_⟩
    have e0 : xs.drop i = [] := List.drop_eq_nil_of_le (by omega)
    rw [e0] at hga
    simp only [gather, Out.ok.injEq] at hga
    obtain ⟨rfl, rfl⟩ := hga
    rw [List.append_nil] at hys
    subst hys
    exact k D hD H2 F2 G2 accV st hH2 hG2 rg rf
theorem sl_lc {L : Nat} (g : Good X z.toCn W L) {tg : List Nat} {mi : MI} {t e : ME} {elt tgE itE : Expr} {ifs : List Expr} {scope : Scope} {ow : List (Str × Nat)} {pos : Pos} (how : ow.map (·.2) = tg) (ok : BlkOk X.N X.env.scope scope ow) (hi : SI X z W S T mi tgE itE)
    (hg : ∀ (s : Shared) (H : Hp) (C : Addr) (cl : List (Str × Addr)) (fp : List Addr), PG (X.blk s H scope (compEnvC scope cl C X.env) fp) tgE (gOf X.K tg))
    (ht : ∀ (H0 : Hp) (s : Shared) (H : Hp) (C : Addr) (cl : List (Str × Addr)) (fp : List Addr), (ifs = [] ∧ t = .c (.bl true)) ∨ ∃ e0, ifs = [e0] ∧ ST (X.blk s H scope (compEnvC scope cl C X.env) fp) (z.blk H0 tg) W0 S T t e0)
    (he : ∀ (H0 : Hp) (s : Shared) (H : Hp) (C : Addr) (cl : List (Str × Addr)) (fp : List Addr), SE (X.blk s H scope (compEnvC scope cl C X.env) fp) (z.blk H0 tg) W0 S T e elt)
    (hs : ∀ x, foldedSetIterable itE X.env x = pure x) : SL X z W S T (.lc tg mi t e) (.ListComp elt [⟨tgE, itE, ifs, 0⟩] scope pos) := by
  have ht' : ∀ (s : Shared) (H : Hp) (C : Addr) (cl : List (Str × Addr)) (fp : List Addr), PTs (X.blk s H scope (compEnvC scope cl C X.env) fp) ifs (tUT z S T tg t) := fun s H C cl fp => by
    refine ⟨fun pins s' σ' H' Q' I hq => ?_⟩
    obtain ⟨H0, F', G', env', n', er', hq⟩ := hq
    rcases ht H0 s H C cl fp with ⟨rfl, rfl⟩ | ⟨e0, rfl, hst⟩
    · exact pts_nil.run pins s' σ' H' Q' I (hq _ _ _ er'.refl)
    · exact (pts_one (ptW e0)).run pins s' σ' H' Q' I (hst er' hq)
  have he' : ∀ (s : Shared) (H : Hp) (C : Addr) (cl : List (Str × Addr)) (fp : List Addr), PE (X.blk s H scope (compEnvC scope cl C X.env) fp) elt (tUE z S T tg e) := fun s H C cl fp =>
    ⟨fun pins s' σ' H' Q' I ⟨H0, F', G', env', n', er', hq⟩ => he H0 s H C cl fp er' hq pins s' I⟩
  refine ⟨_, pe_lc g.calm g.nd (piW tgE itE) ok hg ht' he' hs, fun i y py spos hy hl hsw => ps_setLc g.calm g.nd hy hl hsw (piW tgE itE) ok hg ht' he' hs, fun σ H F G env n Q er h => ?_, fun σ H F G env n Q hlv er h => ?_⟩
  · rw [how]
    refine hi er ?_
    simp only [evE] at h
    cases h1 : evI S T mi env n with
    | ex c n1 => rw [h1] at h; exact h
    | bad => rw [h1] at h; exact h
    | ok xs n1 =>
      rw [h1, Out.bind_ok] at h
      intro J H1 F1 G1 s1 wk hlen
      cases h3 : gather (turnL (fun x => bindT tg x (wipeD env tg)) (evE S T t) (evE S T e)) xs n1 with
      | ex c n' => exact absurd h3 (gather_noex _ _ _ _)
      | bad => rw [h3] at h; exact h.elim
      | ok ys n3 =>
        rw [h3, Out.bind_ok] at h
        have er1 := er.step s1
        refine lc_loop g er1 wk hlen h3 fun D hD H2 F2 G2 accV st hH2 hG2 rg rf => ?_
        have hHD : H D = none := Classical.byContradiction fun q => s1.dom D q hD
        refine h _ _ _ _ ((s1.trans st).tellF hH2 hHD hG2 (er1.notTown hD)) ?_
        simp only [lev]
        split
        · rename_i h2
          exact .lst upd_same ((rf h2).mono (Le.grow (st.fg.non hG2)))
        · exact .lst upd_same (rg.mono (Le.grow hG2))
  · rw [how]
    refine hi er ?_
    simp only [evE] at h
    cases h1 : evI S T mi env n with
    | ex c n1 => rw [h1] at h; exact h
    | bad => rw [h1] at h; exact h
    | ok xs n1 =>
      rw [h1, Out.bind_ok] at h
      intro J H1 F1 G1 s1 wk hlen
      cases h3 : gather (turnL (fun x => bindT tg x (wipeD env tg)) (evE S T t) (evE S T e)) xs n1 with
      | ex c n' => exact absurd h3 (gather_noex _ _ _ _)
      | bad => rw [h3] at h; exact h.elim
      | ok ys n3 =>
        rw [h3, Out.bind_ok] at h
        have er1 := er.step s1
        refine lc_loop g er1 wk hlen h3 fun D hD H2 F2 G2 accV st hH2 hG2 rg rf => ?_
        have hHD : H D = none := Classical.byContradiction fun q => s1.dom D q hD
        refine h D accV H2 F2 G2 (s1.trans st) hHD hH2 hG2 (er1.notTown hD) (rf ?_)
        simp only [lev] at hlv
        split at hlv
        · assumption
        · omega
end
end L2.Ms

namespace L2.Ms
open PySem PySem.Spec PyProof.Rows Mv

/-! ### isinstance of a caught error -/
theorem cr_isExc {X : Cx} : CallR X (.builtin "isinstance") (fun xs H Q => ∃ (a : Addr) (c : Str) (w : V) (u : Value) (b : Bool), xs = [.ref a, w] ∧ H a = some (exO X.K c a) ∧ ClsV w u ∧ ExcC X.K (He.ga X.K c) ∧ PySem.W.kitOne X.K (.ref (He.ga X.K c)) u = some b ∧ Q (.bl b) H) := by
  intro pins s σ H xs us Q I r h
  obtain ⟨a, c, w, u, b, rfl, ha, k, C, e, q⟩ := h
  obtain ⟨u1, u2, rfl, r1, r2⟩ := vals2 r
  have e2 := k.eq r2
  subst e2
  cases r1
  obtain ⟨⟨o, vs, ho, hc, hd, hdt⟩, _⟩ := I.hok a _ ha
  obtain ⟨oc, od, odt, osl⟩ := o
  dsimp only at hc hd hdt
  subst hc hd hdt
  have J : PySem.W.InstAt s.heap a ⟨.ref (He.ga X.K c), none, .fields vs, osl⟩ (He.ga X.K c) none := ⟨ho, rfl, rfl, trivial⟩
  exact PySem.W.kia_one (PySem.W.handS_kitx_exc C.hg C.hk C.hs C.hd C.ha C.hn C.ht C.hm) I.kIn J e (fun z => nomatch z) fun tk => ⟨.bl b, H, I.tok tk, rfl, q⟩

/-! ### the settings of a text -/
structure Cfg where
  N : List Str
  fr : List Str
  gc : List (Str × D)
  ec : List Str
/-- what the module says -/
structure MF (fr : List Str) (gc : List (Str × D)) (ec : List Str) (S : Sub) (K : PySem.W.Frag) (mg : Str → Option Value) : Prop where
  free : ∀ x ∈ fr, mg x = none
  con : ∀ x d, gc.lookup x = some d → ∃ u v, mg x = some u ∧ RelV v u ∧ ∀ c F, Rep c F v d
  excG : ∀ c ∈ ec, mg c = some (.ref (He.ga K c))
  excC : ∀ c ∈ ec, ExcC K (He.ga K c)
  excI : ∀ c ∈ ec, PySem.W.excIn K (He.ga K c) He.veBase "ValueError.__new__" = true ∧ PySem.W.keepIn K (.ref (He.ga K c)) = true ∧ PySem.W.typeIn K (.ref (He.ga K c)) = some (.type "type")
  kit : ∀ c ∈ ec, ∀ x ∈ ec, PySem.W.kitOne K (.ref (He.ga K c)) (.ref (He.ga K x)) = some (S c x)
  kitV : ∀ c ∈ ec, PySem.W.kitOne K (.ref (He.ga K c)) (.type "ValueError") = some (S c "ValueError")
  exm : ∀ c ∈ ec, PySem.W.exmOne K (.ref (He.ga K c)) (.ref (He.ga K "RuleError")) = some (S c "RuleError")
  sub : ∀ c x, S c x = true → c ∈ ec

section
variable {X : Cx} {z : Fx} {W : WX} {S : Sub} {T : Tab} {fr : List Str} {gc : List (Str × D)} {ec : List Str}
theorem p_isExc (hK : X.K = z.K) (M : MF fr gc ec S X.K X.mg) {x : Str} {w : V} {u : Value} (k : ClsV w u) (hk : ∀ c ∈ ec, PySem.W.kitOne X.K (.ref (He.ga X.K c)) u = some (S c x)) : Pr1 X z S (.isExc x) (.builtin "isinstance") [w] := by
  intro σ H F G env n v d r l Q er hv hs hq
  cases d with
  | exc e =>
    simp only [sem1] at hs
    split at hs
    · rename_i hS
      cases hs
      have he := M.sub e _ hS
      have q : Rep z.toCn G v (.exc e) := hv.g er.fg
      cases q with
      | exc ea => exact cr_isExc.w ⟨_, e, w, u, S e x, rfl, by rw [hK]; exact er.gh _ _ ea, k, M.excC e he, hk e he, fin_same er (.bl _) hq⟩
    · cases hs
  | _ => simp [sem1] at hs
end

/-! ### from the text to the small language -/
def cName (g : Cfg) (sc : Scope) (x : Str) : ME := match sc.names.lookup x with
  | some .globalImplicit => if x == ("__debug__" : Str) then .bad else (match g.gc.lookup x with
    | some d => .c d
    | none => .bad)
  | some .globalExplicit => .bad
  | some _ => if x == ("__debug__" : Str) || x == ("__classdict__" : Str) then .bad else if g.N[g.N.idxOf x]? = some x then .v (g.N.idxOf x) else .bad
  | none => .bad
def opP : Operator → Option P2
  | .Add => some .add
  | .Sub => some .sub
  | .Mult => some .mul
  | .Mod => some .mod
  | .FloorDiv => some .fdiv
  | .Pow => some .pow
  | _ => none
def cmpP : CmpOp → Option P2
  | .Eq => some .eq
  | .NotEq => some .ne
  | .Lt => some .lt
  | .LtE => some .le
  | .Gt => some .gt
  | .GtE => some .ge
  | .In => some .in_
  | .NotIn => some .nin
  | _ => none
def isGl (g : Cfg) (sc : Scope) (x : Str) : Bool := decide (sc.names.lookup x = some .globalImplicit) && decide (x ∈ g.fr)
def cConst : Const → ME
  | .none => .c .non
  | .bool b => .c (.bl b)
  | .int i => .c (.int i)
  | .str s => .c (.str s)
  | _ => .bad
def b1 (x : Str) : Option P1 := if x = "len" then some .len else if x = "all" then some .all_ else if x = "any" then some .any_ else if x = "sorted" then some .srt else if x = "sum" then some .sum_ else none
def t1 (x : Str) : Option P1 := if x = "list" then some .toL else if x = "tuple" then some .toT else if x = "str" then some .strI else none
def b2 (x : Str) : Option P2 := if x = "min" then some .min2 else if x = "max" then some .max2 else none
def m1 (x : Str) : Option P2 := if x = "index" then some .index else if x = "count" then some .count else none
/-- a call of a name -/
def cCall (g : Cfg) (sc : Scope) (rE : Expr → ME) (rA : List Expr → MEs) (f : Str) (es : List Expr) : ME :=
  if f ∈ g.fr then (if isGl g sc f = false then .bad else match es with
    | [.Call (.Name x _) [e] [] _] =>
      if x = "range" then (if isGl g sc "range" && noStar e then (if f = "list" then .p1 .rngL (rE e) else if f = "tuple" then .p1 .rngT (rE e) else .bad) else .bad)
      else (match b1 f with
        | some p => .p1 p (rE (es.headD (.Constant .none 0 ⟨0, 0, 0, 0⟩)))
        | none => match t1 f with
          | some p => .p1 p (rE (es.headD (.Constant .none 0 ⟨0, 0, 0, 0⟩)))
          | none => .bad)
    | [e] => if noStar e then (match b1 f with
        | some p => .p1 p (rE e)
        | none => match t1 f with
          | some p => .p1 p (rE e)
          | none => .bad) else .bad
    | [e, e2] => if noStar e && noStar e2 then (match b2 f with
        | some p => .p2 p (rE e) (rE e2)
        | none => if f = "isinstance" then (match e2 with
          | .Name c _ => if c = "str" then (if isGl g sc c then .p1 .isStr (rE e) else .bad) else if c = "tuple" then (if isGl g sc c then .p1 .isTup (rE e) else .bad)
            else if c = "ValueError" then (if isGl g sc c then .p1 (.isExc c) (rE e) else .bad)
            else if c ∈ g.ec ∧ sc.names.lookup c = some .globalImplicit ∧ (c == ("__debug__" : Str)) = false then .p1 (.isExc c) (rE e) else .bad
          | _ => .bad) else .bad) else .bad
    | _ => .bad)
  else if es.all noStar && !es.isEmpty && decide (sc.names.lookup f = some .globalImplicit) && !(f == ("__debug__" : Str)) then .call f (rA es) else .bad
def isCallE : Expr → Bool
  | .Call .. => true
  | _ => false
def cMeth (rE : Expr → ME) (o : Expr) (m : Str) (apos : Pos) (es : List Expr) (pos : Pos) : ME := match es with
  | [e] => if noStar e && !isCallE o && (apos.endLine == pos.line) then (match m1 m with
    | some p => .mt p (rE o) (rE e)
    | none => .bad) else .bad
  | _ => .bad
def cPart (rE : Expr → ME) : Option Expr → ME
  | none => .c .non
  | some e => if isAbs (rE e) then .bad else rE e
def isSlice : Expr → Bool
  | .Slice .. => true
  | _ => false
def cSub (rE : Expr → ME) (a b : Expr) : ME := match b with
  | .Slice none none (some (.UnaryOp .USub (.Constant (.int 1) _ _) _)) _ => .p1 .rev (rE a)
  | .Slice lo hi none _ => .sl (rE a) (cPart rE lo) (cPart rE hi)
  | .Slice _ _ _ _ => .bad
  | b => .p2 .idx (rE a) (rE b)
def cCmp (rE : Expr → ME) (a : Expr) (ops : List CmpOp) (es : List Expr) : ME := match ops, es with
  | [.Is], [.Constant .none _ _] => .p1 .isN (rE a)
  | [.IsNot], [.Constant .none _ _] => .p1 .notN (rE a)
  | [op], [b] => (match cmpP op with
    | some p => if behindInMarks op b then .bad else .p2 p (rE a) (rE b)
    | none => .bad)
  | [op, op'], [b, c] => (match cmpP op, cmpP op' with
    | some p, some q => if lastMarks [op, op'] [b, c] then .bad else .chn p q (rE a) (rE b) (rE c)
    | _, _ => .bad)
  | _, _ => .bad
def cBool (r : Expr → ME) (op : BoolOp) (es : List Expr) : ME := match op, es with
  | .And, [a, b] => .and (r a) (r b)
  | .And, [a, b, c] => .and (r a) (.and (r b) (r c))
  | .And, [a, b, c, d] => .and (r a) (.and (r b) (.and (r c) (r d)))
  | .Or, [a, b] => .or (r a) (r b)
  | .Or, [a, b, c] => .or (r a) (.or (r b) (r c))
  | _, _ => .bad
def cBoolT (r : Expr → ME) (op : BoolOp) (es : List Expr) : ME := match op, es with
  | .And, [a, b] => .and (r a) (r b)
  | .And, [a, b, c] => .and (r a) (.and (r b) (r c))
  | .Or, [a, b] => .or (r a) (r b)
  | .Or, [a, b, c] => .or (r a) (.or (r b) (r c))
  | _, _ => .bad
/-- the names of a target -/
def tgNames : Expr → Option (List Str)
  | .Name x _ => some [x]
  | .Tuple [.Name x _, .Name y _] _ _ => some [x, y]
  | .Tuple [.Name x _, .Name y _, .Name w _] _ _ => some [x, y, w]
  | _ => none
def isSetE : Expr → Bool
  | .Set .. => true
  | _ => false
def locB (sc : Scope) (x : Str) : Bool := match sc.names.lookup x with
  | some .local => true
  | some .cell => true
  | _ => false
def isLocal (sc : Scope) (x : Str) : Bool := decide (sc.names.lookup x = some .local)
/-- [elt for tg in it if ..] -/
def cLc (g : Cfg) (sc : Scope) (rI : Expr → MI) (rT rE : Scope → Expr → ME) (elt : Expr) (gs : List Comprehension) (scope : Scope) : ME := match gs with
  | [⟨tg, it, ifs, 0⟩] => (match tgNames tg with
    | some xs => if blkC g.N sc scope (xs.map fun x => (x, g.N.idxOf x)) && !isSetE it && xs.all (fun x => decide (g.N[g.N.idxOf x]? = some x) && (isLocal (relS scope sc) x || (decide ((relS scope sc).names.lookup x = some .cell) && decide (scope.names.lookup x = some .cell)))) then (match ifs with
      | [] => .lc (xs.map fun x => g.N.idxOf x) (rI it) (.c (.bl true)) (rE (relS scope sc) elt)
      | [e0] => .lc (xs.map fun x => g.N.idxOf x) (rI it) (rT (relS scope sc) e0) (rE (relS scope sc) elt)
      | _ => .bad) else .bad
    | none => .bad)
  | _ => .bad
def cIt (g : Cfg) (sc : Scope) (rE : Expr → ME) (e : Expr) : MI := match e with
  | .Call (.Name f _) [a] [] _ => if f = "range" ∧ isGl g sc "range" = true ∧ noStar a = true then .rg (rE a) else .sq (rE e)
  | e => .sq (rE e)
mutual
def cE (g : Cfg) : Nat → Scope → Expr → ME
  | 0, _, _ => .bad
  | k + 1, sc, e => match e with
    | .Constant c _ _ => cConst c
    | .Name x _ => cName g sc x
    | .BinOp a op b _ => (match opP op with
      | some p => .p2 p (cE g k sc a) (cE g k sc b)
      | none => .bad)
    | .UnaryOp .USub a _ => .p1 .neg (cE g k sc a)
    | .UnaryOp .Not a _ => .p1 .not_ (cE g k sc a)
    | .BoolOp op es _ => cBool (cE g k sc) op es
    | .Compare a ops es _ => cCmp (cE g k sc) a ops es
    | .IfExp t a b _ => .ite (cT g k sc t) (cE g k sc a) (cE g k sc b)
    | .Call (.Name f _) es [] _ => cCall g sc (cE g k sc) (cA g k sc) f es
    | .Call (.Attribute o m apos) es [] pos => cMeth (cE g k sc) o m apos es pos
    | .Subscript a b _ => cSub (cE g k sc) a b
    | .Tuple es _ _ => if es.all noStar then .tup (cA g k sc es) else .bad
    | .List es _ => if es.all noStar then .lst (cA g k sc es) else .bad
    | .ListComp elt gs scope _ => cLc g sc (cI g k sc) (cT g k) (cE g k) elt gs scope
    | _ => .bad
def cT (g : Cfg) : Nat → Scope → Expr → ME
  | 0, _, _ => .bad
  | k + 1, sc, e => match e with
    | .UnaryOp .Not a _ => .p1 .not_ (cT g k sc a)
    | .BoolOp op es _ => cBoolT (cT g k sc) op es
    | .Compare a ops es _ => cCmp (cE g k sc) a ops es
    | .IfExp _ _ _ _ => .bad
    | e => .p1 .tru (cE g k sc e)
def cA (g : Cfg) : Nat → Scope → List Expr → MEs
  | 0, _, _ => .cons .bad .nil
  | k + 1, sc, es => match es with
    | [] => .nil
    | e :: es => .cons (cE g k sc e) (cA g k sc es)
def cI (g : Cfg) : Nat → Scope → Expr → MI
  | 0, _, _ => .sq .bad
  | k + 1, sc, e => cIt g sc (cE g k sc) e
end
mutual
def okE (own : Nat → Bool) : ME → Bool
  | .p1 _ a => okE own a
  | .p2 _ a b => okE own a && okE own b
  | .mt _ a b => okE own a && okE own b
  | .sl a b c => okE own a && okE own b && okE own c
  | .chn _ _ a b c => okE own a && okE own b && okE own c
  | .and a b => okE own a && okE own b
  | .or a b => okE own a && okE own b
  | .ite a b c => okE own a && okE own b && okE own c
  | .call _ as => okA own as
  | .tup as => okA own as
  | .lst as => okA own as
  | .lc tg it t e => okI own it && okE (fun i => own i && !tg.contains i) t && okE (fun i => own i && !tg.contains i) e
  | _ => true
def okA (own : Nat → Bool) : MEs → Bool
  | .nil => true
  | .cons a as => okE own a && okA own as
def okI (own : Nat → Bool) : MI → Bool
  | .sq a => decide (1 ≤ lev own a) && okE own a
  | .rg a => okE own a
end
end L2.Ms

namespace L2.Ms
open PySem PySem.Spec PyProof.Rows Mv
structure Ctx (g : Cfg) (X : Cx) (z : Fx) (W : WX) (L : Nat) (S : Sub) (T : Tab) (sc : Scope) : Prop where
  good : Good X z.toCn W L
  N : X.N = g.N
  sc : X.env.scope = sc
  mf : MF g.fr g.gc g.ec S X.K X.mg
  tab : TabOk X.prog X.w X.K X.mg X.base L T
section
variable {g : Cfg} {X : Cx} {z : Fx} {W : WX} {L : Nat} {S : Sub} {T : Tab} {sc : Scope}
theorem Ctx.gl (c : Ctx g X z W L S T sc) {x : Str} (h : sc.names.lookup x = some .globalImplicit) : Gl X x := by
  show X.env.scope.names.lookup x = _
  rw [c.sc]; exact h
theorem isGl_ok (c : Ctx g X z W L S T sc) {x : Str} (h : isGl g sc x = true) : Gl X x ∧ X.mg x = none := by
  unfold isGl at h
  simp only [Bool.and_eq_true, decide_eq_true_eq] at h
  exact ⟨c.gl h.1, c.mf.free x h.2⟩
theorem cName_ok (c : Ctx g X z W L S T sc) (x : Str) (pos : Pos) : SE X z W S T (cName g sc x) (.Name x pos) := by
  unfold cName
  split
  · rename_i h
    split
    · exact se_bad
    · rename_i hd
      split
      · rename_i d hl
        obtain ⟨u, v, hm, r, hr⟩ := c.mf.con x d hl
        exact se_c (fun F => hr _ F) (pe_glob (c.gl h) hm r (by simpa using hd))
      · exact se_bad
  · exact se_bad
  · rename_i k h1 h2 h
    split
    · exact se_bad
    · rename_i hd
      simp only [Bool.or_eq_true, not_or] at hd
      split
      · rename_i hN
        refine se_v (pe_var (by rw [c.N]; exact hN) ?_ (by simpa using hd.1) (by simpa using hd.2))
        unfold Vis
        rw [c.sc]
        cases k with
        | «local» => exact .inl h
        | cell => exact .inr (.inl h)
        | free => exact .inr (.inr h)
        | globalExplicit => exact absurd rfl h2
        | globalImplicit => exact absurd rfl h1
      · exact se_bad
  · exact se_bad
theorem cConst_ok (c : Const) (k : Nat) (pos : Pos) : SE X z W S T (cConst c) (.Constant c k pos) := by
  unfold cConst
  split
  · exact se_c (fun _ => .non) pe_non
  · exact se_c (fun _ => .bl _) pe_bl
  · exact se_c (fun _ => .int _) pe_int
  · exact se_c (fun _ => .str _) pe_str
  · exact se_bad
theorem opP_ok {op : Operator} {p : P2} (h : opP op = some p) : Pr2 X z p (binaryOp op) := by
  cases op <;> simp only [opP, reduceCtorEq, Option.some.injEq] at h <;> subst h
  · exact pr_add
  · exact pr_sub
  · exact pr_mul
  · exact pr_mod
  · exact pr_pow
  · exact pr_fdiv
theorem cmpP_ok (gd : Good X z.toCn W L) {op : CmpOp} {p : P2} (h : cmpP op = some p) : Pr2 X z p (compareOp op) ∧ lv2 p = fun _ _ => 2 := by
  cases op <;> simp only [cmpP, reduceCtorEq, Option.some.injEq] at h <;> subst h
  · exact ⟨pr_eq gd.u4, rfl⟩
  · exact ⟨pr_ne gd.u4, rfl⟩
  · exact ⟨pr_lt, rfl⟩
  · exact ⟨pr_le, rfl⟩
  · exact ⟨pr_gt, rfl⟩
  · exact ⟨pr_ge, rfl⟩
  · exact ⟨pr_in gd.u, rfl⟩
  · exact ⟨pr_nin gd.u, rfl⟩
theorem cCmp_ok (gd : Good X z.toCn W L) {rE : Expr → ME} {a : Expr} {ops : List CmpOp} {es : List Expr} {pos : Pos} (ih : ∀ e, okE z.own (rE e) = true → SE X z W S T (rE e) e) (h : okE z.own (cCmp rE a ops es) = true) :
    SE X z W S T (cCmp rE a ops es) (.Compare a ops es pos) ∧ ST X z W S T (cCmp rE a ops es) (.Compare a ops es pos) := by
  generalize hm : cCmp rE a ops es = m at h ⊢
  unfold cCmp at hm
  split at hm
  · subst hm; exact ⟨se_isN (ih _ h), st_isN (ih _ h)⟩
  · subst hm; exact ⟨se_notN (ih _ h), st_notN (ih _ h)⟩
  · split at hm
    · rename_i p hp
      obtain ⟨h1, h2⟩ := cmpP_ok gd hp
      split at hm
      · subst hm; exact ⟨se_bad, st_bad⟩
      · rename_i hb
        subst hm
        simp only [okE, Bool.and_eq_true] at h
        exact ⟨se_cmp h1 (by simpa using hb) (ih _ h.1) (ih _ h.2), st_cmp h1 (by simpa using hb) (ih _ h.1) (ih _ h.2) h2⟩
    · subst hm; exact ⟨se_bad, st_bad⟩
  · split at hm
    · rename_i p q hp hq
      obtain ⟨h1, h2⟩ := cmpP_ok gd hp
      obtain ⟨h3, h4⟩ := cmpP_ok gd hq
      split at hm
      · subst hm; exact ⟨se_bad, st_bad⟩
      · rename_i hb
        subst hm
        simp only [okE, Bool.and_eq_true] at h
        exact ⟨se_chn h1 h3 (by simpa using hb) (ih _ h.1.1) (ih _ h.1.2) (ih _ h.2) h2 h4, st_chn h1 h3 (by simpa using hb) (ih _ h.1.1) (ih _ h.1.2) (ih _ h.2) h2 h4⟩
    · subst hm; exact ⟨se_bad, st_bad⟩
  · subst hm; exact ⟨se_bad, st_bad⟩
theorem cBool_ok {rE : Expr → ME} {op : BoolOp} {es : List Expr} {pos : Pos} (ih : ∀ e, okE z.own (rE e) = true → SE X z W S T (rE e) e) (h : okE z.own (cBool rE op es) = true) : SE X z W S T (cBool rE op es) (.BoolOp op es pos) := by
  generalize hm : cBool rE op es = m at h ⊢
  unfold cBool at hm
  split at hm <;> subst hm <;> simp only [okE, Bool.and_eq_true] at h
  · exact se_and2 (ih _ h.1) (ih _ h.2)
  · exact se_and3 (ih _ h.1) (ih _ h.2.1) (ih _ h.2.2)
  · exact se_and4 (ih _ h.1) (ih _ h.2.1) (ih _ h.2.2.1) (ih _ h.2.2.2)
  · exact se_or2 (ih _ h.1) (ih _ h.2)
  · exact se_or3 (ih _ h.1) (ih _ h.2.1) (ih _ h.2.2)
  · exact se_bad
theorem cBoolT_ok {rE : Expr → ME} {op : BoolOp} {es : List Expr} {pos : Pos} (ih : ∀ e, okE z.own (rE e) = true → ST X z W S T (rE e) e) (h : okE z.own (cBoolT rE op es) = true) : ST X z W S T (cBoolT rE op es) (.BoolOp op es pos) := by
  generalize hm : cBoolT rE op es = m at h ⊢
  unfold cBoolT at hm
  split at hm <;> subst hm <;> simp only [okE, Bool.and_eq_true] at h
  · exact st_and2 (ih _ h.1) (ih _ h.2)
  · exact st_and3 (ih _ h.1) (ih _ h.2.1) (ih _ h.2.2)
  · exact st_or2 (ih _ h.1) (ih _ h.2)
  · exact st_or3 (ih _ h.1) (ih _ h.2.1) (ih _ h.2.2)
  · exact st_bad
theorem cPart_ok {rE : Expr → ME} {o : Option Expr} (ih : ∀ e, okE z.own (rE e) = true → SE X z W S T (rE e) e) (h : okE z.own (cPart rE o) = true) : SPt X z W S T (cPart rE o) o := by
  cases o with
  | none => exact .inl ⟨rfl, rfl⟩
  | some e =>
    unfold cPart at h ⊢
    dsimp only at h ⊢
    split
    · exact .inr ⟨e, rfl, se_bad, rfl⟩
    · rename_i ha
      rw [if_neg ha] at h
      exact .inr ⟨e, rfl, ih e h, by simpa using ha⟩
theorem plainIx_of {b : Expr} (h : isSlice b = false) : PlainIx b := by
  intro o i
  cases b <;> first | rfl | (simp [isSlice] at h)
theorem cSub_ok (hK : X.K = z.K) {rE : Expr → ME} {a b : Expr} {pos : Pos} (ih : ∀ e, okE z.own (rE e) = true → SE X z W S T (rE e) e) (h : okE z.own (cSub rE a b) = true) : SE X z W S T (cSub rE a b) (.Subscript a b pos) := by
  generalize hm : cSub rE a b = m at h ⊢
  unfold cSub at hm
  split at hm
  · subst hm; exact se_rev (ih _ h)
  · subst hm
    simp only [okE, Bool.and_eq_true] at h
    exact se_sl (ih _ h.1.1) (cPart_ok ih h.1.2) (cPart_ok ih h.2)
  · subst hm; exact se_bad
  · rename_i h1 h2 h3
    subst hm
    simp only [okE, Bool.and_eq_true] at h
    refine se_idx hK (plainIx_of ?_) (ih _ h.1) (ih _ h.2)
    cases b <;> first | rfl | (exact absurd rfl (h3 _ _ _ _))
theorem m1_ok (gd : Good X z.toCn W L) {m : Str} {p : P2} (h : m1 m = some p) : ∃ id, Pr2M X z p id ∧ Slot "list" m id ∧ typeOf (.builtin id) = pure (.type "method_descriptor") := by
  unfold m1 at h
  split at h
  · rename_i e
    subst e
    cases h
    exact ⟨"list.index", p_index gd.u, PySem.F.slot_list_index, PySem.F.type_list_index⟩
  · split at h
    · rename_i e
      subst e
      cases h
      exact ⟨"list.count", p_count gd.u, PySem.F.slot_list_count, PySem.F.type_list_count⟩
    · cases h
theorem cMeth_ok (gd : Good X z.toCn W L) {rE : Expr → ME} {o : Expr} {m : Str} {apos pos : Pos} {es : List Expr} (ih : ∀ e, okE z.own (rE e) = true → SE X z W S T (rE e) e) (h : okE z.own (cMeth rE o m apos es pos) = true) :
    SE X z W S T (cMeth rE o m apos es pos) (.Call (.Attribute o m apos) es [] pos) := by
  generalize hm : cMeth rE o m apos es pos = me at h ⊢
  unfold cMeth at hm
  split at hm
  · split at hm
    · rename_i hc
      simp only [Bool.and_eq_true] at hc
      split at hm
      · rename_i p hp
        subst hm
        simp only [okE, Bool.and_eq_true] at h
        obtain ⟨id, h1, h2, h3⟩ := m1_ok gd hp
        refine se_mt h1 h2 h3 hc.1.1 (attrBase_of ?_) hc.2 (ih _ h.1) (ih _ h.2)
        have := hc.1.2
        cases o <;> first | rfl | (simp [isCallE] at this)
      · subst hm; exact se_bad
    · subst hm; exact se_bad
  · subst hm; exact se_bad
theorem b1_ok (gd : Good X z.toCn W L) {f : Str} {p : P1} (h : b1 f = some p) : ∃ id, Pr1 X z S p (.builtin id) [] ∧ bootBuiltins f = some (.builtin id) ∧ f ≠ "__name__" ∧ (f == ("__debug__" : Str)) = false := by
  unfold b1 at h
  split at h
  · rename_i e; subst e; cases h; exact ⟨_, p_len gd.K, by decide +kernel, by decide, by decide⟩
  · split at h
    · rename_i e; subst e; cases h; exact ⟨_, p_all gd.calm, by decide +kernel, by decide, by decide⟩
    · split at h
      · rename_i e; subst e; cases h; exact ⟨_, p_any gd.calm, by decide +kernel, by decide, by decide⟩
      · split at h
        · rename_i e; subst e; cases h; exact ⟨_, p_srt, by decide +kernel, by decide, by decide⟩
        · split at h
          · rename_i e; subst e; cases h; exact ⟨_, p_sum gd.calm, by decide +kernel, by decide, by decide⟩
          · cases h
theorem t1_ok (gd : Good X z.toCn W L) {f : Str} {p : P1} (h : t1 f = some p) : ∃ id, Pr1 X z S p (.type id) [] ∧ bootBuiltins f = some (.type id) ∧ f ≠ "__name__" ∧ (f == ("__debug__" : Str)) = false := by
  unfold t1 at h
  split at h
  · rename_i e; subst e; cases h; exact ⟨_, p_toL gd.calm, by decide +kernel, by decide, by decide⟩
  · split at h
    · rename_i e; subst e; cases h; exact ⟨_, p_toT, by decide +kernel, by decide, by decide⟩
    · split at h
      · rename_i e; subst e; cases h; exact ⟨_, p_strI, by decide +kernel, by decide, by decide⟩
      · cases h
theorem b2_ok (gd : Good X z.toCn W L) {f : Str} {p : P2} (h : b2 f = some p) : ∃ id, Pr2C X z p (.builtin id) ∧ bootBuiltins f = some (.builtin id) ∧ f ≠ "__name__" ∧ (f == ("__debug__" : Str)) = false := by
  unfold b2 at h
  split at h
  · rename_i e; subst e; cases h; exact ⟨_, p_min2 gd.calm, by decide +kernel, by decide, by decide⟩
  · split at h
    · rename_i e; subst e; cases h; exact ⟨_, p_max2 gd.calm, by decide +kernel, by decide, by decide⟩
    · cases h
theorem pe_tyN (c : Ctx g X z W L S T sc) {x : Str} {t : String} {p : Pos} (h : isGl g sc x = true) (hv : bootBuiltins x = some (.type t)) (hn : x ≠ "__name__") (hd : (x == ("__debug__" : Str)) = false) : PE X (.Name x p) (tC (.ty t)) :=
  pe_bltn (isGl_ok c h).1 (isGl_ok c h).2 hv rfl hn hd
theorem cCall_ok (c : Ctx g X z W L S T sc) {rE : Expr → ME} {rA : List Expr → MEs} {f : Str} {es : List Expr} {p pos : Pos} (ih : ∀ e, okE z.own (rE e) = true → SE X z W S T (rE e) e) (iA : ∀ es, es.all noStar = true → okA z.own (rA es) = true → SA X z W S T (rA es) es) (h : okE z.own (cCall g sc rE rA f es) = true) :
    SE X z W S T (cCall g sc rE rA f es) (.Call (.Name f p) es [] pos) := by
  generalize hm : cCall g sc rE rA f es = m at h ⊢
  unfold cCall at hm
  split at hm
  · split at hm
    · subst hm; show SE X z W S T _ _; exact se_bad
    · rename_i hfr hgl
      have hgl' : isGl g sc f = true := by simpa using hgl
      obtain ⟨hg, hmg⟩ := isGl_ok c hgl'
      split at hm
      · rename_i x q e q2
        split at hm
        · rename_i ex
          subst ex
          split at hm
          · rename_i hc
            simp only [Bool.and_eq_true] at hc
            obtain ⟨hg2, hm2⟩ := isGl_ok c hc.1
            split at hm
            · rename_i ef
              subst ef
              subst hm
              show SE X z W S T _ _; exact se_rngL c.good.calm hg hmg hg2 hm2 hc.2 (ih _ h)
            · split at hm
              · rename_i ef
                subst ef
                subst hm
                show SE X z W S T _ _; exact se_rngT c.good.calm hg hmg hg2 hm2 hc.2 (ih _ h)
              · subst hm; show SE X z W S T _ _; exact se_bad
          · subst hm; show SE X z W S T _ _; exact se_bad
        · split at hm
          · rename_i p1 hp1
            subst hm
            obtain ⟨id, h1, h2, h3, h4⟩ := b1_ok c.good hp1
            show SE X z W S T _ _; exact se_call1 h1 hg hmg h2 rfl (ih _ h) h3 h4
          · split at hm
            · rename_i p1 hp1
              subst hm
              obtain ⟨id, h1, h2, h3, h4⟩ := t1_ok c.good hp1
              show SE X z W S T _ _; exact se_callT1 h1 hg hmg h2 rfl (ih _ h) h3 h4
            · subst hm; show SE X z W S T _ _; exact se_bad
      · split at hm
        · rename_i hn
          split at hm
          · rename_i p1 hp1
            subst hm
            obtain ⟨id, h1, h2, h3, h4⟩ := b1_ok c.good hp1
            show SE X z W S T _ _; exact se_call1 h1 hg hmg h2 hn (ih _ h) h3 h4
          · split at hm
            · rename_i p1 hp1
              subst hm
              obtain ⟨id, h1, h2, h3, h4⟩ := t1_ok c.good hp1
              show SE X z W S T _ _; exact se_callT1 h1 hg hmg h2 hn (ih _ h) h3 h4
            · subst hm; show SE X z W S T _ _; exact se_bad
        · subst hm; show SE X z W S T _ _; exact se_bad
      · split at hm
        · rename_i hn
          simp only [Bool.and_eq_true] at hn
          split at hm
          · rename_i p2 hp2
            subst hm
            simp only [okE, Bool.and_eq_true] at h
            obtain ⟨id, h1, h2, h3, h4⟩ := b2_ok c.good hp2
            show SE X z W S T _ _; exact se_call2 h1 hg hmg h2 hn.1 hn.2 (ih _ h.1) (ih _ h.2) h3 h4
          · split at hm
            · rename_i ef
              subst ef
              split at hm
              · rename_i cn q
                split at hm
                · rename_i ec
                  subst ec
                  split at hm
                  · rename_i hcg
                    subst hm
                    show SE X z W S T _ _; exact se_isi p_isStr hg hmg hn.1 hn.2 (ih _ h) (pe_tyN c hcg (by decide +kernel) (by decide) (by decide))
                  · subst hm; show SE X z W S T _ _; exact se_bad
                · split at hm
                  · rename_i ec
                    subst ec
                    split at hm
                    · rename_i hcg
                      subst hm
                      show SE X z W S T _ _; exact se_isi p_isTup hg hmg hn.1 hn.2 (ih _ h) (pe_tyN c hcg (by decide +kernel) (by decide) (by decide))
                    · subst hm; show SE X z W S T _ _; exact se_bad
                  · split at hm
                    · rename_i ec
                      subst ec
                      split at hm
                      · rename_i hcg
                        subst hm
                        show SE X z W S T _ _; exact se_isi (p_isExc c.good.K c.mf (clsV_ty "ValueError") fun x hx => c.mf.kitV x hx) hg hmg hn.1 hn.2 (ih _ h) (pe_tyN c hcg (by decide +kernel) (by decide) (by decide))
                      · subst hm; show SE X z W S T _ _; exact se_bad
                    · split at hm
                      · rename_i hcg
                        subst hm
                        show SE X z W S T _ _; exact se_isi (p_isExc c.good.K c.mf (.own (He.ga X.K cn)) fun x hx => c.mf.kit x hx cn hcg.1) hg hmg hn.1 hn.2 (ih _ h) (pe_glob (c.gl hcg.2.1) (c.mf.excG cn hcg.1) rfl hcg.2.2)
                      · subst hm; show SE X z W S T _ _; exact se_bad
              · subst hm; show SE X z W S T _ _; exact se_bad
            · subst hm; show SE X z W S T _ _; exact se_bad
        · subst hm; show SE X z W S T _ _; exact se_bad
      · subst hm; show SE X z W S T _ _; exact se_bad
  · split at hm
    · rename_i hc
      simp only [Bool.and_eq_true, decide_eq_true_eq] at hc
      subst hm
      cases es with
      | nil => simp at hc
      | cons e es => show SE X z W S T _ _; exact se_call c.good c.tab (c.gl hc.1.2) (by simpa using hc.2) hc.1.1.1 (iA _ hc.1.1.1 h)
    · subst hm; show SE X z W S T _ _; exact se_bad
end
end L2.Ms

namespace L2.Ms
open PySem PySem.Spec PyProof.Rows Mv
section
variable {g : Cfg} {X : Cx} {z : Fx} {W : WX} {L : Nat} {S : Sub} {T : Tab} {sc : Scope}
theorem cIt_ok (c : Ctx g X z W L S T sc) {rE : Expr → ME} {tg e : Expr} (ih : ∀ e, okE z.own (rE e) = true → SE X z W S T (rE e) e) (h : okI z.own (cIt g sc rE e) = true) : SI X z W S T (cIt g sc rE e) tg e := by
  generalize hm : cIt g sc rE e = m at h ⊢
  unfold cIt at hm
  split at hm
  · split at hm
    · rename_i hc
      obtain ⟨rfl, h1, h2⟩ := hc
      subst hm
      obtain ⟨hg, hmg⟩ := isGl_ok c h1
      show SI X z W S T _ _ _
      exact si_rg hg hmg h2 (ih _ h)
    · subst hm
      simp only [okI, Bool.and_eq_true, decide_eq_true_eq] at h
      show SI X z W S T _ _ _
      exact si_sq h.1 (ih _ h.2)
  · subst hm
    simp only [okI, Bool.and_eq_true, decide_eq_true_eq] at h
    show SI X z W S T _ _ _
    exact si_sq h.1 (ih _ h.2)
theorem pg_of {Y : Cx} {xs : List Str} {tg : Expr} (ht : tgNames tg = some xs) (hc : Y.calm = true) (hN : Y.N.Nodup) (hx : ∀ x ∈ xs, Y.N[Y.N.idxOf x]? = some x ∧ Loc Y.env.scope x ∧ (Y.fn x = true ∨ Y.env.scope.names.lookup x = some .local)) : PG Y tg (gOf Y.K (xs.map fun x => Y.N.idxOf x)) := by
  unfold tgNames at ht
  split at ht
  · cases ht
    obtain ⟨h1, h2, h3⟩ := hx _ List.mem_cons_self
    exact pg_name hN h1 h2 h3
  · cases ht
    obtain ⟨a1, a2, a3⟩ := hx _ (List.mem_cons_self)
    obtain ⟨b1, b2, b3⟩ := hx _ (List.mem_cons_of_mem _ List.mem_cons_self)
    exact pg_tup hc (pgs_cons (pg_name hN a1 a2 a3) (pgs_cons (pg_name hN b1 b2 b3) pgs_nil rfl) rfl) rfl rfl
  · cases ht
    obtain ⟨a1, a2, a3⟩ := hx _ (List.mem_cons_self)
    obtain ⟨b1, b2, b3⟩ := hx _ (List.mem_cons_of_mem _ List.mem_cons_self)
    obtain ⟨c1, c2, c3⟩ := hx _ (List.mem_cons_of_mem _ (List.mem_cons_of_mem _ List.mem_cons_self))
    exact pg_tup hc (pgs_cons (pg_name hN a1 a2 a3) (pgs_cons (pg_name hN b1 b2 b3) (pgs_cons (pg_name hN c1 c2 c3) pgs_nil rfl) rfl) rfl) rfl rfl
  · cases ht
theorem Ctx.blk (c : Ctx g X z W L S T sc) (H0 : Hp) (tg : List Nat) (s : Shared) (H : Hp) (scope : Scope) (C : Addr) (cl : List (Str × Addr)) (fp : List Addr) : Ctx g (X.blk s H scope (compEnvC scope cl C X.env) fp) (z.blk H0 tg) W0 L S T (relS scope sc) where
  good := ⟨c.good.calm, c.good.K, c.good.nd, c.good.room, PassesOwn.never, fun _ _ x => by
    obtain ⟨_, _, _, _, _, _, _, _, _, _, _, _, _, _, _, _, q⟩ := x
    exact q.elim⟩
  N := c.N
  sc := by
    show relabel scope X.env = relS scope sc
    rw [← c.sc]
    rfl
  mf := c.mf
  tab := c.tab
theorem sl_bad {e : Expr} : SL X z W S T .bad e := ⟨fun _ _ _ => False, ⟨fun _ _ _ _ _ _ h => h.elim⟩, fun _ _ _ _ _ _ _ => ⟨fun _ _ _ _ _ _ h => h.elim⟩, fun _ _ _ _ _ _ _ _ h => h.elim, fun _ _ _ _ _ _ _ _ _ h => h.elim⟩
theorem cLc_ok (c : Ctx g X z W L S T sc) {rI : Expr → MI} {rT rE : Scope → Expr → ME} {elt : Expr} {gs : List Comprehension} {scope : Scope} {pos : Pos} (iI : ∀ tg e, okI z.own (rI e) = true → SI X z W S T (rI e) tg e)
    (iT : ∀ sc' Y y V, Ctx g Y y V L S T sc' → ∀ e, okE y.own (rT sc' e) = true → ST Y y V S T (rT sc' e) e) (iE : ∀ sc' Y y V, Ctx g Y y V L S T sc' → ∀ e, okE y.own (rE sc' e) = true → SE Y y V S T (rE sc' e) e)
    (h : okE z.own (cLc g sc rI rT rE elt gs scope) = true) : SL X z W S T (cLc g sc rI rT rE elt gs scope) (.ListComp elt gs scope pos) := by
  generalize hm : cLc g sc rI rT rE elt gs scope = m at h ⊢
  unfold cLc at hm
  split at hm
  · rename_i tg it ifs
    split at hm
    · rename_i xs hxs
      split at hm
      · rename_i hc
        simp only [Bool.and_eq_true, List.all_eq_true, Bool.or_eq_true, decide_eq_true_eq] at hc
        obtain ⟨⟨hblk, hset⟩, hnm⟩ := hc
        have ok : BlkOk X.N X.env.scope scope (xs.map fun x => (x, g.N.idxOf x)) := by
          rw [c.N, c.sc]
          exact blkOk_by hblk
        have hs : ∀ x, foldedSetIterable it X.env x = pure x := fun x => by
          cases it <;> first | rfl | (simp [isSetE] at hset)
        have how : (xs.map fun x => (x, g.N.idxOf x)).map (·.2) = xs.map fun x => g.N.idxOf x := by simp
        have hg : ∀ (s : Shared) (H : Hp) (C : Addr) (cl : List (Str × Addr)) (fp : List Addr), PG (X.blk s H scope (compEnvC scope cl C X.env) fp) tg (gOf X.K (xs.map fun x => g.N.idxOf x)) := fun s H C cl fp => by
          have cb := c.blk H [] s H scope C cl fp
          have q := pg_of (Y := X.blk s H scope (compEnvC scope cl C X.env) fp) hxs cb.good.calm cb.good.nd fun x hx => ?_
          · rw [show (X.blk s H scope (compEnvC scope cl C X.env) fp).N = g.N from c.N] at q
            exact q
          · obtain ⟨h1, h2⟩ := hnm x hx
            rw [cb.N, cb.sc]
            refine ⟨h1, ?_, ?_⟩
            · rcases h2 with h2 | h2
              · exact .inl (of_decide_eq_true h2)
              · exact .inr h2.1
            · rcases h2 with h2 | h2
              · exact .inr (of_decide_eq_true h2)
              · refine .inl ?_
                show (scope.names.lookup x == some .cell) = true
                rw [h2.2]; rfl
        split at hm
        · subst hm
          simp only [okE, Bool.and_eq_true] at h
          show SL X z W S T _ _
          refine sl_lc c.good how ok (iI tg it h.1.1) hg (fun H0 s H C cl fp => .inl ⟨rfl, rfl⟩) (fun H0 s H C cl fp => iE _ _ _ _ (c.blk H0 _ s H scope C cl fp) elt h.2) hs
        · subst hm
          simp only [okE, Bool.and_eq_true] at h
          show SL X z W S T _ _
          refine sl_lc c.good how ok (iI tg it h.1.1) hg (fun H0 s H C cl fp => .inr ⟨_, rfl, iT _ _ _ _ (c.blk H0 _ s H scope C cl fp) _ h.1.2⟩) (fun H0 s H C cl fp => iE _ _ _ _ (c.blk H0 _ s H scope C cl fp) elt h.2) hs
        · subst hm; show SL X z W S T _ _; exact sl_bad
      · subst hm; show SL X z W S T _ _; exact sl_bad
    · subst hm; show SL X z W S T _ _; exact sl_bad
  · subst hm; show SL X z W S T _ _; exact sl_bad
end
/-- THE EXPRESSIONS -/
theorem soundE (g : Cfg) (L : Nat) (S : Sub) (T : Tab) : ∀ k : Nat,
    (∀ sc X z W, Ctx g X z W L S T sc → ∀ e, okE z.own (cE g k sc e) = true → SE X z W S T (cE g k sc e) e) ∧
    (∀ sc X z W, Ctx g X z W L S T sc → ∀ e, okE z.own (cT g k sc e) = true → ST X z W S T (cT g k sc e) e) ∧
    (∀ sc X z W, Ctx g X z W L S T sc → ∀ es, es.all noStar = true → okA z.own (cA g k sc es) = true → SA X z W S T (cA g k sc es) es) ∧
    (∀ sc X z W, Ctx g X z W L S T sc → ∀ tg e, okI z.own (cI g k sc e) = true → SI X z W S T (cI g k sc e) tg e)
  | 0 => by
    refine ⟨fun sc X z W c e h => ?_, fun sc X z W c e h => ?_, fun sc X z W c es hn h => ?_, fun sc X z W c tg e h => ?_⟩
    · simp only [cE]; (show SE X z W S T _ _); exact se_bad
    · simp only [cT]; (show ST X z W S T _ _); exact st_bad
    · simp only [cA]
      intro σ H F G env n Q er p
      exact p.elim
    · simp only [cI]
      intro σ H F G env n Q er p
      exact p.elim
  | k + 1 => by
    obtain ⟨iE, iT, iA, iI⟩ := soundE g L S T k
    refine ⟨fun sc X z W c e h => ?_, fun sc X z W c e h => ?_, fun sc X z W c es hn h => ?_, fun sc X z W c tg e h => ?_⟩
    · have jE := iE sc X z W c
      cases e with
      | Constant co _ _ => simp only [cE]; (show SE X z W S T _ _); exact cConst_ok _ _ _
      | Name x _ => simp only [cE]; (show SE X z W S T _ _); exact cName_ok c _ _
      | BinOp a op b _ =>
        simp only [cE] at h ⊢
        cases hp : opP op with
        | none => (show SE X z W S T _ _); exact se_bad
        | some p =>
          rw [hp] at h
          simp only [okE, Bool.and_eq_true] at h
          (show SE X z W S T _ _); exact se_p2 (opP_ok hp) (jE _ h.1) (jE _ h.2)
      | UnaryOp op a _ =>
        cases op with
        | USub => simp only [cE, okE] at h ⊢; (show SE X z W S T _ _); exact se_neg (jE _ h)
        | Not => simp only [cE, okE] at h ⊢; (show SE X z W S T _ _); exact se_not (jE _ h)
        | _ => simp only [cE]; (show SE X z W S T _ _); exact se_bad
      | BoolOp op es _ => simp only [cE] at h ⊢; (show SE X z W S T _ _); exact cBool_ok jE h
      | Compare a ops es _ => simp only [cE] at h ⊢; (show SE X z W S T _ _); exact (cCmp_ok c.good jE h).1
      | IfExp t a b _ =>
        simp only [cE, okE, Bool.and_eq_true] at h ⊢
        (show SE X z W S T _ _); exact se_ite (iT sc X z W c _ h.1.1) (jE _ h.1.2) (jE _ h.2)
      | Call f es kws pos =>
        cases kws with
        | cons _ _ => cases f <;> (simp only [cE]; (show SE X z W S T _ _); exact se_bad)
        | nil =>
          cases f with
          | Name f _ => simp only [cE] at h ⊢; (show SE X z W S T _ _); exact cCall_ok c jE (iA sc X z W c) h
          | Attribute o m apos => simp only [cE] at h ⊢; (show SE X z W S T _ _); exact cMeth_ok c.good jE h
          | _ => simp only [cE]; (show SE X z W S T _ _); exact se_bad
      | Subscript a b _ => simp only [cE] at h ⊢; (show SE X z W S T _ _); exact cSub_ok c.good.K jE h
      | Tuple es _ _ =>
        simp only [cE] at h ⊢
        split
        · rename_i hn
          rw [if_pos hn] at h
          (show SE X z W S T _ _); exact se_tup (iA sc X z W c es hn h)
        · (show SE X z W S T _ _); exact se_bad
      | List es _ =>
        simp only [cE] at h ⊢
        split
        · rename_i hn
          rw [if_pos hn] at h
          (show SE X z W S T _ _); exact se_lst (iA sc X z W c es hn h)
        · (show SE X z W S T _ _); exact se_bad
      | ListComp elt gs scope _ => simp only [cE] at h ⊢; (show SE X z W S T _ _); exact SL.se (cLc_ok c (iI sc X z W c) iT iE h)
      | _ => simp only [cE]; (show SE X z W S T _ _); exact se_bad
    · have jE := iE sc X z W c
      have jT := iT sc X z W c
      cases e with
      | UnaryOp op a _ =>
        cases op with
        | Not => simp only [cT, okE] at h ⊢; (show ST X z W S T _ _); exact st_not (jT _ h)
        | _ => simp only [cT, okE] at h ⊢; (show ST X z W S T _ _); exact st_tru c.good.K (fun _ => rfl) (jE _ h)
      | BoolOp op es _ => simp only [cT] at h ⊢; (show ST X z W S T _ _); exact cBoolT_ok jT h
      | Compare a ops es _ => simp only [cT] at h ⊢; (show ST X z W S T _ _); exact (cCmp_ok c.good jE h).2
      | IfExp t a b _ => simp only [cT]; (show ST X z W S T _ _); exact st_bad
      | _ => simp only [cT, okE] at h ⊢; (show ST X z W S T _ _); exact st_tru c.good.K (fun _ => rfl) (jE _ h)
    · cases es with
      | nil => simp only [cA]; (show SA X z W S T _ _); exact sa_nil
      | cons e es =>
        simp only [cA, okA, Bool.and_eq_true] at h ⊢
        simp only [List.all_cons, Bool.and_eq_true] at hn
        (show SA X z W S T _ _); exact sa_cons hn.1 (iE sc X z W c e h.1) (iA sc X z W c es hn.2 h.2)
    · simp only [cI] at h ⊢
      (show SI X z W S T _ _ _); exact cIt_ok c (iE sc X z W c) h
end L2.Ms

namespace L2.Ms
open PySem PySem.Spec PyProof.Rows Mv
/-- since the def's entry: F0 stands, what else is told of is new -/
structure EN (z : Fx) (F G : Hp) : Prop where
  f0 : Le z.F0 F
  nw : ∀ a, G a ≠ none → z.F0 a ≠ none ∨ z.H0 a = none
/-- at a def's end -/
structure RT (z : Fx) (H G : Hp) (n : Nat) : Prop where
  f0 : Le z.F0 G
  gh : Le G H
  nw : ∀ a, G a ≠ none → z.F0 a ≠ none ∨ z.H0 a = none
  h0 : ∀ a o, z.H0 a = some o → z.pt ≠ some a → H a = some o
  tw : ∀ a, z.pt = some a → H a = some (.lst (List.replicate n (.int 0))) ∧ G a = none
def PostS (z : Fx) (W : WX) (D : Ends) (o : SO) : Prop := match o with
  | .nx env' n' => ∀ σ' H' F' G', ER z σ' H' F' G' env' n' → EN z F' G' → D.nx σ' H'
  | .rt d n' => ∀ v H' G', RT z H' G' n' → Rep z.toCn G' v d → D.rt v H'
  | .ex c n' env' => ∀ σ' H' F' G', ER z σ' H' F' G' env' n' → EN z F' G' → W (.ref (He.ga z.K c)) none σ' H'
  | .bad => False
section
variable {X : Cx} {z : Fx} {W : WX} {S : Sub} {T : Tab} {σ : St} {H F G H1 F1 G1 : Hp} {env : Ev} {n n1 : Nat} {D : Ends}
theorem EN.step (en : EN z F G) (er : ER z σ H F G env n) (s : Step z H F G H1 F1 G1 n1) : EN z F1 G1 :=
  ⟨en.f0.trans s.ff, fun a h => (s.ng a h).elim (en.nw a) fun q => .inr (er.free0 q)⟩
theorem ER.rt (er : ER z σ H F G env n) (en : EN z F G) : RT z H G n := ⟨en.f0.trans er.fg, er.gh, en.nw, er.h0, fun a q => ⟨(er.tw a q).1, (er.tw a q).2.1⟩⟩
/-- a statement's case: n, where it ends -/
def SS (X : Cx) (z : Fx) (W : WX) (S : Sub) (T : Tab) (m : MS) (st : Stmt) : Prop := ∀ (σ : St) (H F G : Hp) (env : Ev) (n : Nat) (D : Ends), ER z σ H F G env n → EN z F G → PostS z W D (evS S T m env n) → wS X st D σ H
def SB (X : Cx) (z : Fx) (W : WX) (S : Sub) (T : Tab) (m : MB) (st : List Stmt) : Prop := ∀ (σ : St) (H F G : Hp) (env : Ev) (n : Nat) (D : Ends), ER z σ H F G env n → EN z F G → PostS z W D (evB S T m env n) → wSs X st D σ H
theorem SE.useS {a : ME} {e : Expr} (ha : SE X z W S T a e) (er : ER z σ H F G env n) (en : EN z F G) {f : Mv.D → Nat → SO} {Q1 : VK} (h : PostS z W D (SO.of env (evE S T a env n) f))
    (k : ∀ d n1 v H1 F1 G1, evE S T a env n = .ok d n1 → Step z H F G H1 F1 G1 n1 → ER z σ H1 F1 G1 env n1 → EN z F1 G1 → RepLv z.toCn (lev z.own a) F1 G1 v d → PostS z W D (f d n1) → Q1 v H1) : wE X e σ H Q1 := by
  refine ha er ?_
  cases h1 : evE S T a env n with
  | ok d n1 =>
    rw [h1] at h
    exact fun v H1 F1 G1 st r => k d n1 v H1 F1 G1 h1 st (er.step st) (en.step er st) r h
  | ex c n1 =>
    rw [h1] at h
    exact fun H1 F1 G1 st => h σ H1 F1 G1 (er.step st) (en.step er st)
  | bad =>
    rw [h1] at h
    exact h
theorem ST.useS {a : ME} {e : Expr} (ha : ST X z W S T a e) (er : ER z σ H F G env n) (en : EN z F G) {f : Mv.D → Nat → SO} {Q1 : Bool → Hp → Prop} (h : PostS z W D (SO.of env (evE S T a env n) f)) (hb : ∀ d n, (∀ b, d ≠ .bl b) → f d n = .bad)
    (k : ∀ b n1 H1 F1 G1, evE S T a env n = .ok (.bl b) n1 → Step z H F G H1 F1 G1 n1 → ER z σ H1 F1 G1 env n1 → EN z F1 G1 → PostS z W D (f (.bl b) n1) → Q1 b H1) : wT X e σ H Q1 := by
  refine ha er ?_
  cases h1 : evE S T a env n with
  | ok d n1 =>
    rw [h1] at h
    cases d with
    | bl b => exact fun H1 F1 G1 st => k b n1 H1 F1 G1 h1 st (er.step st) (en.step er st) h
    | _ => simp only [SO.of] at h; rw [hb _ _ (by intro b q; cases q)] at h; exact h
  | ex c n1 =>
    rw [h1] at h
    exact fun H1 F1 G1 st => h σ H1 F1 G1 (er.step st) (en.step er st)
  | bad =>
    rw [h1] at h
    exact h
/-! ### blocks -/
theorem ss_bad {st : Stmt} : SS X z W S T .bad st := fun _ _ _ _ _ _ _ _ _ h => h.elim
theorem sb_nil : SB X z W S T .nil [] := fun σ H F G env n D er en h => pss_nil.w (h σ H F G er en)
theorem sb_cons {s : MS} {b : MB} {st : Stmt} {sts : List Stmt} (hs : SS X z W S T s st) (hb : SB X z W S T b sts) : SB X z W S T (.cons s b) (st :: sts) := fun σ H F G env n D er en h => by
  refine (pss_cons (psW st) (pssW sts)).w (hs σ H F G env n { D with nx := wSs X sts D } er en ?_)
  simp only [evB] at h
  cases h1 : evS S T s env n with
  | nx env1 n1 =>
    rw [h1] at h
    exact fun σ' H' F' G' er' en' => hb σ' H' F' G' env1 n1 D er' en' h
  | rt d n1 => rw [h1] at h; exact h
  | ex c n1 env1 => rw [h1] at h; exact h
  | bad => rw [h1] at h; exact h
theorem ss_ret {e : ME} {ex : Expr} {pos : Pos} (he : SE X z W S T e ex) : SS X z W S T (.ret e) (.Return (some ex) pos) := fun σ H F G env n D er en h => by
  refine (ps_ret (peW ex)).w (he.useS er en h fun d n1 v H1 F1 G1 _ s1 er1 en1 r1 h1 => ?_)
  exact h1 v H1 G1 (er1.rt en1) (r1.g er1.fg)
theorem ss_retN {pos : Pos} : SS X z W S T (.ret (.c .non)) (.Return none pos) := fun σ H F G env n D er en h => ps_retN.w (h .non H G (er.rt en) .non)
theorem swapsNone {e : Expr} {l : Nat} {env : Env} (h : (match e with | .ListComp .. => false | .SetComp .. => false | .DictComp .. => false | _ => true) = true) (t : Option Expr) : swapsWith e t l env = pure false := by
  cases e <;> first | rfl | (simp at h)
theorem ss_ex {e : ME} {ex : Expr} {pos : Pos} (hc : (match ex with | .ListComp .. => false | .SetComp .. => false | .DictComp .. => false | _ => true) = true) (he : SE X z W S T e ex) : SS X z W S T (.ex e) (.Expr ex pos) := fun σ H F G env n D er en h => by
  refine (ps_expr (peW ex) (swapsNone hc none)).w (he.useS er en h fun d n1 v H1 F1 G1 _ s1 er1 en1 r1 h1 => ?_)
  exact h1 σ H1 F1 G1 er1 en1
theorem ss_if {t : ME} {a b : MB} {e : Expr} {as bs : List Stmt} {pos : Pos} (ht : ST X z W S T t e) (ha : SB X z W S T a as) (hb : SB X z W S T b bs) : SS X z W S T (.if_ t a b) (.If e as bs pos) := fun σ H F G env n D er en h => by
  refine (ps_if (ptW e) (pssW as) (pssW bs)).w (ht.useS er en h (fun d n hd => by cases d <;> first | rfl | exact absurd rfl (hd _)) fun c n1 H1 F1 G1 _ s1 er1 en1 h1 => ?_)
  cases c with
  | true => rw [if_pos rfl]; exact ha _ _ _ _ _ _ _ er1 en1 h1
  | false => rw [if_neg Bool.false_ne_true]; exact hb _ _ _ _ _ _ _ er1 en1 h1
/-! ### names are set -/
/-- a slot holds nothing any more -/
theorem ER.kill {i : Nat} (er : ER z σ H F G env n) : ER z σ H F G (env.set i none) n where
  fg := er.fg
  gh := er.gh
  h0 := er.h0
  tw := er.tw
  val := fun j e he hj => by
    by_cases q : i = j
    · subst q
      by_cases hlt : i < env.length
      · rw [List.getElem?_set_self hlt] at he; cases he
      · rw [List.getElem?_eq_none (by simpa using hlt)] at he; cases he
    · rw [List.getElem?_set_ne q] at he; exact er.val j e he hj
  ow := fun j e he hj => by
    by_cases q : i = j
    · subst q
      by_cases hlt : i < env.length
      · rw [List.getElem?_set_self hlt] at he; cases he
      · rw [List.getElem?_eq_none (by simpa using hlt)] at he; cases he
    · rw [List.getElem?_set_ne q] at he; exact er.ow j e he hj
  dis := fun j k d e p hne hj hk h1 h2 h3 => by
    have q1 : i ≠ j := fun q => by
      subst q
      by_cases hlt : i < env.length
      · rw [List.getElem?_set_self hlt] at h1; cases h1
      · rw [List.getElem?_eq_none (by simpa using hlt)] at h1; cases h1
    have q2 : i ≠ k := fun q => by
      subst q
      by_cases hlt : i < env.length
      · rw [List.getElem?_set_self hlt] at h2; cases h2
      · rw [List.getElem?_eq_none (by simpa using hlt)] at h2; cases h2
    rw [List.getElem?_set_ne q1] at h1
    rw [List.getElem?_set_ne q2] at h2
    exact er.dis j k d e p hne hj hk h1 h2 h3
  len := by simp [er.len]
/-- .. in the frame too -/
theorem ER.gone {i : Nat} (er : ER z σ H F G env n) : ER z (σ.set i none) H F G (env.set i none) n := by
  have k := er.kill (i := i)
  have ne : ∀ (j : Nat) d, (env.set i none)[j]? = some (some d) → i ≠ j := fun j d h q => by
    subst q
    by_cases hlt : i < env.length
    · rw [List.getElem?_set_self hlt] at h; cases h
    · rw [List.getElem?_eq_none (by simpa using hlt)] at h; cases h
  refine ⟨k.fg, k.gh, k.h0, k.tw, fun j e he hj => ?_, fun j e he hj => ?_, fun j l d e p hne hj hl h1 h2 h3 => ?_, by simp [er.len]⟩
  · rw [List.getElem?_set_ne (ne j e he)]; exact k.val j e he hj
  · rw [List.getElem?_set_ne (ne j e he)]; exact k.ow j e he hj
  · rw [List.getElem?_set_ne (ne j d h1)] at h3
    rw [List.getElem?_set_ne (ne l e h2)]
    exact k.dis j l d e p hne hj hl h1 h2 h3
/-- a new list of one's own -/
theorem ER.setOwn {i : Nat} {p : Addr} {vs : List V} {ds : List Mv.D} (er : ER z σ H F G env n) (ho : z.own i = true) (hp : H p = some (.lst vs)) (hg : G p = none) (ht : z.pt ≠ some p) (r : RepL z.toCn F vs ds) :
    ER z (σ.set i (some (.ref p))) H F (upd G p (.lst vs)) (env.set i (some (.lst ds))) n where
  fg := er.fg.right (er.fg.non hg)
  gh := fun a u e => by
    by_cases q : a = p
    · subst q; rw [upd_same] at e; cases e; exact hp
    · rw [upd_ne q] at e; exact er.gh a u e
  h0 := er.h0
  tw := fun a q => by
    have e : a ≠ p := fun e => ht (e ▸ q)
    rw [upd_ne e]; exact er.tw a q
  val := fun j e he hj => by
    have q : i ≠ j := fun q => by subst q; rw [ho] at hj; cases hj
    rw [List.getElem?_set_ne q] at he ⊢
    exact er.val j e he hj
  ow := fun j e he hj => by
    by_cases q : i = j
    · subst q
      have hlt : i < env.length := by simpa using (List.getElem?_eq_some_iff.mp he).1
      rw [List.getElem?_set_self hlt] at he
      simp only [Option.some.injEq] at he
      subst he
      exact ⟨p, vs, ds, rfl, by rw [List.getElem?_set_self (by rw [← er.len]; exact hlt)], upd_same, er.fg.non hg, r⟩
    · rw [List.getElem?_set_ne q] at he ⊢
      obtain ⟨p', vs', ds', a1, a2, a3, a4, a5⟩ := er.ow j e he hj
      exact ⟨p', vs', ds', a1, a2, by rw [upd_ne (ne_of_none a3 hg)]; exact a3, a4, a5⟩
  dis := fun j k d e p' hne hj hk h1 h2 h3 => by
    have own_ne : ∀ (m : Nat) e, i ≠ m → env[m]? = some (some e) → z.own m = true → σ[m]? ≠ some (some (.ref p)) := fun m e _ hm ho2 hs => by
      obtain ⟨p2, vs', ds', a1, a2, a3, _⟩ := er.ow m e hm ho2
      rw [a2] at hs
      cases hs
      rw [hg] at a3
      cases a3
    by_cases q1 : i = j
    · subst q1
      have q2 : i ≠ k := hne
      rw [List.getElem?_set_ne q2] at h2 ⊢
      have hlt : i < env.length := by simpa using (List.getElem?_eq_some_iff.mp h1).1
      rw [List.getElem?_set_self (by rw [← er.len]; exact hlt)] at h3
      cases h3
      exact own_ne k e q2 h2 hk
    · rw [List.getElem?_set_ne q1] at h1 h3
      by_cases q2 : i = k
      · subst q2
        have hlt : i < env.length := by simpa using (List.getElem?_eq_some_iff.mp h2).1
        rw [List.getElem?_set_self (by rw [← er.len]; exact hlt)]
        intro hq
        cases hq
        exact own_ne j d q1 h1 hj h3
      · rw [List.getElem?_set_ne q2] at h2 ⊢
        exact er.dis j k d e p' hne hj hk h1 h2 h3
  len := by simp [er.len]
theorem EN.own {p : Addr} {o : HO} (en : EN z F G) (h0 : z.H0 p = none) : EN z F (upd G p o) := ⟨en.f0, fun a h => by
  by_cases q : a = p
  · subst q; exact .inr h0
  · rw [upd_ne q] at h; exact en.nw a h⟩
/-- a list of one's own is changed -/
theorem ER.mut {i : Nat} {p : Addr} {vs us : List V} {ds es : List Mv.D} (er : ER z σ H F G env n) (en : EN z F G) (ho : z.own i = true) (he : env[i]? = some (some (.lst ds))) (hσ : σ[i]? = some (some (.ref p))) (hg : G p = some (.lst vs)) (hf : F p = none) (r : RepL z.toCn F us es) :
    ER z σ (upd H p (.lst us)) F (upd G p (.lst us)) (env.set i (some (.lst es))) n ∧ EN z F (upd G p (.lst us)) := by
  have ht : ∀ a, z.pt = some a → a ≠ p := fun a q e => by subst e; rw [(er.tw a q).2.1] at hg; cases hg
  have h0 : z.H0 p = none := by
    rcases en.nw p (by rw [hg]; simp) with h | h
    · exact absurd hf (en.f0.has h)
    · exact h
  refine ⟨⟨er.fg.right hf, er.gh.both, fun a o h q => ?_, fun a q => ?_, fun j e hj ho2 => ?_, fun j e hj ho2 => ?_, fun j k d e p' hne hj hk h1 h2 h3 => ?_, by simp [er.len]⟩, en.own h0⟩
  · rw [upd_ne (ne_of_none h h0)]; exact er.h0 a o h q
  · rw [upd_ne (ht a q), upd_ne (ht a q)]; exact er.tw a q
  · have q : i ≠ j := fun q => by subst q; rw [ho] at ho2; cases ho2
    rw [List.getElem?_set_ne q] at hj
    exact er.val j e hj ho2
  · by_cases q : i = j
    · subst q
      have hlt : i < env.length := by simpa using (List.getElem?_eq_some_iff.mp hj).1
      rw [List.getElem?_set_self hlt] at hj
      simp only [Option.some.injEq] at hj
      subst hj
      exact ⟨p, us, es, rfl, hσ, upd_same, hf, r⟩
    · rw [List.getElem?_set_ne q] at hj
      obtain ⟨p', vs', ds', a1, a2, a3, a4, a5⟩ := er.ow j e hj ho2
      have hpp : p' ≠ p := fun e' => by
        subst e'
        exact er.dis i j _ _ p' q ho ho2 he hj hσ a2
      exact ⟨p', vs', ds', a1, a2, by rw [upd_ne hpp]; exact a3, a4, a5⟩
  · have get : ∀ (m : Nat) d', (env.set i (some (.lst es)))[m]? = some (some d') → ∃ d'', env[m]? = some (some d'') := fun m d' hm => by
      by_cases q : i = m
      · subst q; exact ⟨_, he⟩
      · rw [List.getElem?_set_ne q] at hm; exact ⟨_, hm⟩
    obtain ⟨d1, h1'⟩ := get j d h1
    obtain ⟨d2, h2'⟩ := get k e h2
    exact er.dis j k d1 d2 p' hne hj hk h1' h2' h3
end
end L2.Ms

namespace L2.Ms
open PySem PySem.Spec PyProof.Rows Mv
def noComp : Expr → Bool
  | .ListComp .. => false
  | .SetComp .. => false
  | .DictComp .. => false
  | _ => true
theorem swaps0 {e : Expr} {l : Nat} {env : Env} (h : noComp e = true) (t : Option Expr) : swapsWith e t l env = pure false := by
  cases e <;> first | rfl | (simp [noComp] at h)
section
variable {X : Cx} {z : Fx} {W : WX} {S : Sub} {T : Tab} {σ : St} {H F G H1 F1 G1 : Hp} {env : Ev} {n n1 : Nat} {D : Ends}
/-- an expression that may go to a name -/
def SN (X : Cx) (z : Fx) (W : WX) (S : Sub) (T : Tab) (me : ME) (e : Expr) : Prop := (∃ elt gs scope q, e = .ListComp elt gs scope q ∧ SL X z W S T me e) ∨ (noComp e = true ∧ SE X z W S T me e)
/-- x = e, by e's reading -/
theorem set_rule {e : Expr} {i : Nat} {x : Str} {p pos : Pos} {me : ME} (hl : SN X z W S T me e) (hN : X.N.Nodup) (hi : X.N[i]? = some x) (hx : Loc X.env.scope x) (hf : X.fn x = true ∨ X.env.scope.names.lookup x = some .local) :
    ∃ t : TE, PS X (.Assign [.Name x p] e pos) (tAsg t (gName i)) ∧ (∀ (σ : St) (H F G : Hp) (env : Ev) (n : Nat) (Q : VK), ER z σ H F G env n → PostE z W σ H F G (lev z.own me) (evE S T me env n) Q → t σ H Q) := by
  rcases hl with ⟨elt, gs, scope, q, rfl, t, h1, h2, h3, _⟩ | ⟨hc, hs⟩
  · refine ⟨t, ?_, h3⟩
    have e1 : swapsWith (.ListComp elt gs scope q) (some (.Name x p)) pos.line X.env = pure (X.env.blockKind == .function && X.env.kindOf x == some .local && p.line == q.line && !(scope.names.any fun (n, k) => n == x && (k == .local || k == .cell))) := rfl
    cases hb : (X.env.blockKind == .function && X.env.kindOf x == some .local && p.line == q.line && !(scope.names.any fun (n, k) => n == x && (k == .local || k == .cell))) with
    | true =>
      rw [hb] at e1
      have hloc : X.env.scope.names.lookup x = some .local := by
        simp only [Bool.and_eq_true] at hb
        exact beq_iff_eq.mp hb.1.1.2
      exact h2 i x p pos hi hloc e1
    | false =>
      rw [hb] at e1
      exact ps_set hN hi hx h1 e1 hf
  · exact ⟨wE X e, ps_set hN hi hx (peW e) (swaps0 hc _) hf, fun σ H F G env n Q er p => hs er p⟩
theorem ss_set {e : Expr} {i : Nat} {x : Str} {p pos : Pos} {me : ME} (hl : SN X z W S T me e) (hN : X.N.Nodup) (hi : X.N[i]? = some x) (hx : Loc X.env.scope x) (hf : X.fn x = true ∨ X.env.scope.names.lookup x = some .local) (ho : z.own i = false) (h2 : 2 ≤ lev z.own me) :
    SS X z W S T (.set i me) (.Assign [.Name x p] e pos) := fun σ H F G env n D er en h => by
  obtain ⟨t, ht, hr⟩ := set_rule (p := p) (pos := pos) hl hN hi hx hf
  refine ht.w (hr σ H F G env n _ er ?_)
  simp only [evS] at h
  cases h1 : evE S T me env n with
  | ok d n1 =>
    rw [h1] at h
    intro v H1 F1 G1 st r
    exact h _ H1 F1 G1 ((er.step st).set ho (r.two h2)) (en.step er st)
  | ex c n1 =>
    rw [h1] at h
    exact fun H1 F1 G1 st => h σ H1 F1 G1 (er.step st) (en.step er st)
  | bad => rw [h1] at h; exact h
/-- raise C('..') -/
theorem ss_rais {g : Cfg} {L : Nat} {sc : Scope} (c : Ctx g X z W L S T sc) {x m : Str} {j : Nat} {p p2 pos pos2 : Pos} (hx : x ∈ g.ec) (hg : sc.names.lookup x = some .globalImplicit) (hd : (x == ("__debug__" : Str)) = false) :
    SS X z W S T (.rais x) (.Raise (some (.Call (.Name x p) [.Constant (.str m) j p2] [] pos)) none pos2) := fun σ H F G env n D er en h => by
  obtain ⟨h1, h2, h3⟩ := c.mf.excI x hx
  refine (ps_raise c.good.calm c.good.tk (pmk_own PySem.F.excBase_ValueError h1 (c.mf.excG x hx) h2 (raises_own (c.mf.excC x hx).hs h3) (c.gl hg) hd)).w ?_
  have := h σ H F G er en
  rw [← c.good.K] at this
  exact this
/-- the same from a later start -/
def Fx.re (z : Fx) (F : Hp) : Fx := { z with F0 := F }
theorem ER.re {F0 : Hp} (er : ER z σ H F G env n) : ER (z.re F0) σ H F G env n := ⟨er.fg, er.gh, er.h0, er.tw, er.val, er.ow, er.dis, er.len⟩
theorem ER.unre {F0 : Hp} (er : ER (z.re F0) σ H F G env n) : ER z σ H F G env n := ⟨er.fg, er.gh, er.h0, er.tw, er.val, er.ow, er.dis, er.len⟩
theorem EN.unre {F' G' : Hp} (en : EN z F1 G1) (l : Le F1 G1) (e : EN (z.re F1) F' G') : EN z F' G' := ⟨en.f0.trans e.f0, fun a h => (e.nw a h).elim (fun q => en.nw a (l.has q)) .inr⟩
theorem EN.start (en : EN z F1 G1) (l : Le F1 F) (en2 : EN z F G) : EN (z.re F1) F G := ⟨l, fun a h => (en2.nw a h).elim (fun q => .inl ((show Le z.F0 F1 from en.f0).has q)) .inr⟩
theorem RT.unre {n' : Nat} (en : EN z F1 G1) (l : Le F1 G1) (e : RT (z.re F1) H G n') : RT z H G n' := ⟨en.f0.trans e.f0, e.gh, fun a h => (e.nw a h).elim (fun q => en.nw a (l.has q)) .inr, e.h0, e.tw⟩
theorem PostS.re (en : EN z F1 G1) (l : Le F1 G1) {o : SO} {f : Ev → Nat → SO} {N : L2.St → Hp → Prop} (h : PostS z W D (o.then f))
    (k : ∀ env' n' σ' H' F' G', o = .nx env' n' → ER z σ' H' F' G' env' n' → EN z F' G' → Le F1 F' → PostS z W D (f env' n') → N σ' H') (D' : Ends) (hr : D'.rt = D.rt) (hn : D'.nx = N) : PostS (z.re F1) W D' o := by
  cases o with
  | nx env' n' => exact fun σ' H' F' G' er en' => by rw [hn]; exact k env' n' σ' H' F' G' rfl er.unre (en.unre l en') en'.f0 h
  | rt d n' => exact fun v H' G' rt r => by rw [hr]; exact h v H' G' (RT.unre en l rt) r
  | ex c n' env' => exact fun σ' H' F' G' er en' => h σ' H' F' G' er.unre (en.unre l en')
  | bad => exact h
/-- for .. in .. -/
theorem ss_for {g : Cfg} {L : Nat} {sc : Scope} (c : Ctx g X z W L S T sc) {tg : List Nat} {mi : MI} {b : MB} {tgE itE : Expr} {bs : List Stmt} {pos : Pos} (hi : SI X z W S T mi tgE itE) (h2 : 2 ≤ levI z.own mi) (hg : PG X tgE (gOf X.K tg)) (ho : ∀ i ∈ tg, z.own i = false) (hb : ∀ F0, SB X (z.re F0) W S T b bs)
    (hs : ∀ x, foldedSetIterable itE X.env x = pure x) : SS X z W S T (.for_ tg mi b) (.For tgE itE bs [] pos) := fun σ H F G env n D er en h => by
  refine (ps_for c.good.po c.good.calm (piW tgE itE) hg (pssW bs) hs).w (hi er ?_)
  simp only [evS] at h
  cases h1 : evI S T mi env n with
  | ex c n1 => rw [h1] at h; exact fun H1 F1 G1 st => h σ H1 F1 G1 (er.step st) (en.step er st)
  | bad => rw [h1] at h; exact h
  | ok xs n1 =>
    rw [h1] at h
    have h : PostS z W D (forL tg (evB S T b) xs env n1) := h
    intro J H1 F1 G1 s1 wk hlen
    rw [if_pos (decide_eq_true h2)] at wk
    let Wp : Nat → Nat → St → Hp → Prop := fun i m σ2 H2 => m = xs.length - i ∧ i ≤ xs.length ∧ ∃ F2 G2 env2 n2, ER z σ2 H2 F2 G2 env2 n2 ∧ EN z F2 G2 ∧ Le F1 F2 ∧ PostS z W D (forL tg (evB S T b) (xs.drop i) env2 n2)
    refine ⟨Wp, ⟨xs.length, by simp, Nat.zero_le _, F1, G1, env, n1, er.step s1, en.step er s1, .rfl, by simpa using h⟩, ?_⟩
    rintro i m σ2 H2 ⟨rfl, hi, F2, G2, env2, n2, er2, en2, l2, p2⟩
    have leA : Le F1 H2 := (l2.trans er2.fg).trans er2.gh
    by_cases hlt : i < xs.length
    · refine .inr ⟨wk.go i H2 leA hlt, fun σ' H' => Wp (i + 1) (xs.length - (i + 1)) σ' H', fun σ' H' p => ⟨_, by omega, p⟩, fun x H' y => ?_⟩
      obtain ⟨rfl, d, hd, rx⟩ := wk.yld i H2 x _ leA hlt y
      have hdrop : xs.drop i = d :: xs.drop (i + 1) := by
        rw [List.drop_eq_getElem_cons hlt]
        rw [List.getElem?_eq_getElem hlt] at hd
        cases hd
        rfl
      rw [hdrop] at p2
      simp only [forL] at p2
      cases hb1 : bindT tg d env2 with
      | none => rw [hb1] at p2; exact p2.elim
      | some env3 =>
        rw [hb1] at p2
        refine gOf_ok c.good.K er2 ho (rx.mono l2) hb1 fun σ3 er3 _ _ => ?_
        have p2 : PostS z W D ((evB S T b env3 n2).then fun env2 n2 => forL tg (evB S T b) (xs.drop (i + 1)) env2 n2) := p2
        have en1 := en.step er s1
        refine hb F1 σ3 H' F2 G2 env3 n2 _ er3.re (en1.start l2 en2) ?_
        exact PostS.re en1 s1.fg p2 (fun env' n' σ' H' F' G' _ er' en' l' p' => ⟨rfl, hlt, F', G', env', n', er', en', l', p'⟩) _ rfl rfl
    · refine .inl ⟨wk.stop i H2 leA (by omega), ?_⟩
      have e0 : xs.drop i = [] := List.drop_eq_nil_of_le (by omega)
      rw [e0] at p2
      exact p2 σ2 H2 F2 G2 er2 en2
/-- while .. -/
theorem ss_whl {g : Cfg} {L : Nat} {sc : Scope} (c : Ctx g X z W L S T sc) {f : Nat} {t : ME} {b : MB} {e : Expr} {bs : List Stmt} {pos : Pos} (ht : ST X z W S T t e) (hb : SB X z W S T b bs) : SS X z W S T (.whl f t b) (.While e bs [] pos) := fun σ H F G env n D er en h => by
  refine (ps_while c.good.po (ptW e) (pssW bs)).w ?_
  simp only [evS] at h
  refine ⟨fun m σ2 H2 => ∃ F2 G2 env2 n2, ER z σ2 H2 F2 G2 env2 n2 ∧ EN z F2 G2 ∧ PostS z W D (whlL (evE S T t) (evB S T b) m env2 n2), ⟨f, F, G, env, n, er, en, h⟩, ?_⟩
  rintro m σ2 H2 ⟨F2, G2, env2, n2, er2, en2, p2⟩
  cases m with
  | zero => exact p2.elim
  | succ m =>
    refine ht.useS er2 en2 (D := D) (f := fun d n => match d with
      | .bl true => (evB S T b env2 n).then fun env2 n2 => whlL (evE S T t) (evB S T b) m env2 n2
      | .bl false => .nx env2 n
      | _ => .bad) p2 (fun d n hd => by cases d <;> first | rfl | exact absurd rfl (hd _)) fun c n3 H3 F3 G3 _ s3 er3 en3 h3 => ?_
    cases c with
    | false => rw [if_neg Bool.false_ne_true]; exact h3 σ2 H3 F3 G3 er3 en3
    | true =>
      rw [if_pos rfl]
      refine ⟨fun σ' H' => ∃ F2 G2 env2 n2, ER z σ' H' F2 G2 env2 n2 ∧ EN z F2 G2 ∧ PostS z W D (whlL (evE S T t) (evB S T b) m env2 n2), fun σ' H' q => ⟨m, Nat.lt_succ_self m, q⟩, hb σ2 H3 F3 G3 env2 n3 _ er3 en3 ?_⟩
      have h3 : PostS z W D ((evB S T b env2 n3).then fun env2 n2 => whlL (evE S T t) (evB S T b) m env2 n2) := h3
      cases ho : evB S T b env2 n3 with
      | nx env' n' => rw [ho] at h3; exact fun σ' H' F' G' er' en' => ⟨F', G', env', n', er', en', h3⟩
      | rt d n' => rw [ho] at h3; exact h3
      | ex c n' env' => rw [ho] at h3; exact h3
      | bad => rw [ho] at h3; exact h3
/-- town.append(0) -/
theorem ss_tick {i : Nat} {x : Str} {p p2 apos pos pos2 : Pos} {j : Nat} (hi : X.N[i]? = some x) (hv : Vis X.env.scope x) (hd : (x == ("__debug__" : Str)) = false) (hd2 : (x == ("__classdict__" : Str)) = false) (hline : (apos.endLine == pos.line) = true) (ho : z.own i = false) :
    SS X z W S T (.tick i) (.Expr (.Call (.Attribute (.Name x p) "append" apos) [.Constant (.int 0) j p2] [] pos) pos2) := fun σ H F G env n D er en h => by
  simp only [evS] at h
  split at h
  · rename_i he
    split at h
    · rename_i hn
      obtain ⟨v, hσ, r⟩ := er.val i _ he ho
      cases r with
      | @town a hp =>
        refine (ps_expr (pe_bm PySem.F.plainAttrs_list PySem.F.slot_list_append PySem.F.type_list_append mt_append (pe_var hi hv hd hd2) (pa_cons pe_int pa_nil) rfl rfl hline rfl rfl)).w ?_
        obtain ⟨t1, t2, t3⟩ := er.tw a hp
        refine ⟨_, hσ, .inl ⟨rfl, _, SqL.of t1⟩, a, _, _, rfl, rfl, t1, by rw [List.length_replicate, ← line_eq]; exact hn, ?_⟩
        have e1 : List.replicate n (V.int 0) ++ [V.int 0] = List.replicate (n + 1) (V.int 0) := by rw [List.replicate_succ']
        rw [e1]
        refine h σ _ F G ⟨er.fg, er.gh.right t2, fun b o hb q => ?_, fun b q => ?_, er.val, er.ow, er.dis, er.len⟩ en
        · rw [upd_ne (fun e => q (by rw [hp, e]))]; exact er.h0 b o hb q
        · rw [hp] at q
          cases q
          exact ⟨upd_same, t2, t3⟩
    · exact h.elim
  · exact h.elim
end
end L2.Ms

namespace L2.Ms
open PySem PySem.Spec PyProof.Rows Mv
/-! ### a caught error that is kept in a name -/
section
variable {X : Cx} {pins : List (Addr × Obj)} {σ : St} {H : Hp} {s : Shared}
/-- a pinned object is tracked from now on -/
theorem track {a : Addr} {oe : Obj} {φ : Heap → Prop} (I : Inv X ((a, oe) :: pins) σ H s) (new : X.s_0.heap.get? a = none) (far : ∀ p ∈ X.pn ++ pins, p.1 ≠ a) (hφ : φ s.heap) (keep : ∀ h1 h2 : Heap, φ h1 → (∀ o, h1.get? a = some o → h2.get? a = some o) → φ h2) :
    Inv X pins σ (upd H a (.ext φ)) s := by
  have here := I.pin (a, oe) (List.mem_append_right _ List.mem_cons_self)
  have ha : s.heap.get? a = some oe := here.1
  have free : H a = none := here.2.1
  have ne0 : ∀ b o, X.s_0.heap.get? b = some o → b ≠ a := fun b o e q => by rw [q, new] at e; cases e
  have neH : ∀ b u, H b = some u → b ≠ a := fun b u e q => by rw [q, free] at e; cases e
  refine ⟨I.ok, I.os, I.bare, ⟨I.base.keep, I.base.slot, fun b o e n hx => ?_, I.base.there, fun b xs e => ?_, fun b o u e => ?_, fun b ps e => ?_⟩, I.loc, I.cell, ?_, fun x c e => ?_, fun p hp => ?_, fun b u e => ?_, I.len⟩
  · rw [upd_ne (ne0 b o e)]; exact I.base.free b o e n hx
  · have q := I.base.tups b xs e
    rw [upd_ne (neH b _ q)]; exact q
  · have q := I.base.frzs b o u e
    rw [upd_ne (neH b _ q)]; exact q
  · obtain ⟨more, q⟩ := I.base.tbls b ps e
    exact ⟨more, by rw [upd_ne (neH b _ q)]; exact q⟩
  · rw [upd_ne (Ne.symm here.2.2.1)]; exact I.free
  · have hc : c ≠ a := fun q => by
      obtain ⟨v, o, ho, hd⟩ := I.cell x c e
      rw [q, ha] at ho
      cases ho
      exact here.2.2.2.2 v hd
    rw [upd_ne hc]; exact I.freeC x c e
  · obtain ⟨e1, e2, e3⟩ := I.pin p (by
      rcases List.mem_append.mp hp with q | q
      · exact List.mem_append_left _ q
      · exact List.mem_append_right _ (List.mem_cons_of_mem _ q))
    exact ⟨e1, by rw [upd_ne (far p hp)]; exact e2, e3⟩
  · by_cases hb : b = a
    · subst hb
      rw [upd_same] at e
      cases e
      exact ⟨hφ, ⟨oe, ha⟩, keep⟩
    · rw [upd_ne hb] at e
      exact (I.hok b u e).stay (fun _ _ _ q => q) (fun c q => by rw [upd_ne (neH c _ q)]; exact q) fun c xs q => by rw [upd_ne (neH c _ q)]; exact q
end
/-- what a caught error is, by its class's value -/
def excAt (cls : Value) (a : Addr) (h : Heap) : Prop := ∃ o vs, h.get? a = some o ∧ o.cls = cls ∧ o.dict = none ∧ o.data = .fields vs
theorem excAt_keep {cls : Value} {a : Addr} : ∀ h1 h2 : Heap, excAt cls a h1 → (∀ o, h1.get? a = some o → h2.get? a = some o) → excAt cls a h2 := fun _ _ ⟨o, vs, h, r⟩ k => ⟨o, vs, k o h, r⟩
/-- except x as n: y = n -/
def wCatch (K : PySem.W.Frag) (c : Value) (i j : Nat) (Wout : WX) (D : Ends) : WX := fun cls d σ H =>
  ∃ b, PySem.W.exmOne K cls c = some b ∧ (b = true → d = none ∧ ∀ a, H a = none → D.nx (((σ.set i (some (.ref a))).set j (some (.ref a))).set i none) (upd H a (.ext (excAt cls a)))) ∧ (b = false → Wout cls d σ H)
section
variable {X : Cx} {x n y : Str} {c : Value} {i j : Nat} {body : List Stmt} {np py pm sp pos pos' : Pos} {tb : WX → TS} {Wout : WX}
theorem ps_catch (hs : X.stack = X.env :: X.outer) (hf : X.env.frame = some X.env.locals) (hex : X.ex = []) (hN : X.N.Nodup) (hi : X.N[i]? = some n) (hln : X.env.kindOf n = some .local) (hj : X.N[j]? = some y) (hly : X.env.kindOf y = some .local) (hnd : (n == ("__debug__" : Str)) = false) (hnc : (n == ("__classdict__" : Str)) = false) (hc : Names X x c) (tk : Takes X Wout)
    (hb : ∀ (W : WX) (pn : List (Addr × Obj)) (xe : Value → Shared → Prop), Takes (X.tr pn xe) W → PassesOwn (model X.prog X.w) X.A X.env xe → PSs (X.tr pn xe) body (tb W)) :
    PS X (.Try body [.ExceptHandler (some (.Name x np)) (some n) [.Assign [.Name y py] (.Name n pm) sp] pos'] [] [] pos) (fun D σ H => tb (wCatch X.K c i j Wout D) D σ H) := by
  refine ⟨fun pins st σ H D I h => ?_⟩
  have good := I.ok
  have frs0 : X.A.frames = some (X.env :: X.outer) := good.frames.trans (by rw [hs])
  refine wpAny_Try_except ?_
  refine wpAny_mono ((hb (wCatch X.K c i j Wout D) (X.pn ++ pins) (fun e t₁ => wpAny (model X.prog X.w) X.A (noteFrame e X.env) (fun _ t₂ => wpAny (model X.prog X.w) X.A (setFlight e none) (fun _ t₃ => wpAny (model X.prog X.w) X.A (handleBy e X.env [.ExceptHandler (some (.Name x np)) (some n) [.Assign [.Name y py] (.Name n pm) sp] pos']) (SP X pins D) X.xe t₃) X.xe t₂) X.xe t₁)
      (fun u s' air => ?_) PassesOwn.looking).run [] st σ H D (I.toTry _) h) (fun f s1 done => ?_) (fun _ _ q => q)
  · obtain ⟨a, B, sI, pins', σ', H', cls, d, rfl, JT, nb, up, sky, na, os, ag, b, hb1, hyes, hno⟩ := air
    have J : Inv X pins σ' H' sI := JT.ofTry good
    have sky2 : Sky B (X.env :: X.outer) a (Zc cls d) X.env.locals s'.heap := hs ▸ sky
    show wpAny (model X.prog X.w) X.A (noteFrame (.ref a) X.env) _ _ _
    refine Sky.land Zc.steady frs0 hf sky2 fun h3 fly3 up3 => ?_
    have J3 : Inv X pins σ' H' { s' with heap := h3 } := J.landed nb fly3.1 (up.trans up3) os ag
    obtain ⟨oe3, vs3, he3, hz3, hd3⟩ := fly3.there
    have nfr : a ∉ frs (X.env :: X.outer) := fun hm => by
      obtain ⟨_, o', e', hnf⟩ := fly3.2.2.1.mem hm
      rw [he3] at e'
      cases e'
      exact hnf _ hd3
    have nL : a ≠ X.env.locals := fun q => nfr (List.mem_filterMap.mpr ⟨X.env, List.mem_cons_self, by rw [hf, q]⟩)
    have nF : a ∉ X.fs := fun hm => by
      obtain ⟨e, he, q⟩ := List.mem_filterMap.mp hm
      exact nfr (List.mem_filterMap.mpr ⟨e, List.mem_cons_of_mem _ he, q⟩)
    have gone : sI.heap.get? a = none := by
      cases q : sI.heap.get? a with
      | none => rfl
      | some o =>
        have q2 := nb a o q (by rw [hs]; exact nfr)
        rw [fly3.2.1] at q2
        cases q2
    have new : X.s_0.heap.get? a = none := by
      cases q : X.s_0.heap.get? a with
      | none => rfl
      | some o =>
        obtain ⟨o', q2⟩ := J.base.there a o q (by rw [hex]; simp)
        rw [gone] at q2
        cases q2
    have far : ∀ p ∈ X.pn ++ pins, p.1 ≠ a := fun p hp q => by
      have q2 := (J.pin p hp).1
      rw [q, gone] at q2
      cases q2
    have S3 := J3.suite he3 hd3 na nL nF
    refine wpAny_handleBy_cons (codeAny_handlers_test ?_) (by intro q; cases q)
    have typ : PySem.W.Looks (model X.prog X.w) h3 (typeOf (.ref a)) cls := fun A Q E s k q => wpAny_typeOf_ref (k _ _ he3) (by rw [hz3.1]; exact q)
    have fits := PySem.W.exm_one (M := model X.prog X.w) J3.kIn typ hb1
    have named : ∀ {Q : Value → Shared → Prop} {E : Value → Shared → Prop}, Q c { s' with heap := h3 } → wpAny (model X.prog X.w) (X.A.mark (some (.ref a))) (eval (.Name x np) X.env) Q E { s' with heap := h3 } := fun {Q E} q => by
      obtain ⟨g1, g2, g3⟩ := hc
      rcases g3 with hm | ⟨hm, hv, hnn⟩
      · exact ld_glob (X := X.suite a ((a, oe3) :: (X.pn ++ pins))) S3 g1 hm q g2
      · exact ld_blt (X := X.suite a ((a, oe3) :: (X.pn ++ pins))) S3 g1 hm hv q hnn g2
    refine named (fits.here ?_)
    cases b with
    | true =>
      obtain ⟨hdn, hnext⟩ := hyes rfl
      refine codeAny_handlers_suite_as (HandSPX.lands_againZ fly3 fun h4 fly4 up4 => ?_)
      have J4 : Inv X pins σ' H' { s' with heap := h4 } := J.landed nb fly4.1 ((up.trans up3).trans up4) os ag
      obtain ⟨oe4, vs4, he4, hz4, hd4⟩ := fly4.there
      have S4 := J4.suite he4 hd4 na nL nF
      refine store_ok (X := X.suite a ((a, oe4) :: (X.pn ++ pins))) (v := .ref a) S4 hN hi (.inl hln) rfl (fun s5 S5 => ?_) (.inr hln)
      have hiσ : i < σ'.length := by rw [J.len]; exact (List.getElem?_eq_some_iff.mp hi).1
      have run : PSs (X.suite a ((a, oe4) :: (X.pn ++ pins))) [.Assign [.Name y py] (.Name n pm) sp] (tAsg (tVar i) (gName j)) := pss_one (ps_set hN hj (.inl hly) (pe_var hi (.inl hln) hnd hnc) rfl (.inr hly))
      refine wpAny_mono (run.run [] s5 _ H' { nx := fun σ6 H6 => σ6 = (σ'.set i (some (.ref a))).set j (some (.ref a)) ∧ H6 = H', rt := fun _ _ => False } S5 ⟨.ref a, by rw [List.getElem?_set_self hiσ], rfl, rfl⟩) (fun f s6 res => ?_) (fun _ _ q => q.elim)
      cases f with
      | next =>
        obtain ⟨σ6, H6, S6, e6, e7⟩ := res
        subst e6
        subst e7
        have J6 : Inv X ((a, oe4) :: pins) ((σ'.set i (some (.ref a))).set j (some (.ref a))) H6 s6 := ⟨good, S6.os, S6.bare, S6.base, S6.loc, S6.cell, S6.free, S6.freeC, fun p hp => S6.pin p (by
          rw [List.append_nil]
          show p ∈ (a, oe4) :: (X.pn ++ pins)
          rcases List.mem_append.mp hp with q | q
          · exact List.mem_cons_of_mem _ (List.mem_append_left _ q)
          · rcases List.mem_cons.mp q with q | q
            · rw [q]; exact List.mem_cons_self
            · exact List.mem_cons_of_mem _ (List.mem_append_right _ q)), S6.hok, S6.len⟩
        refine gone_ok J6 hN hi hln fun s7 J7 => ?_
        have hob := (J7.pin (a, oe4) (List.mem_append_right _ List.mem_cons_self)).1
        subst hdn
        exact ⟨_, _, track J7 new far (φ := excAt cls a) ⟨oe4, vs4, hob, hz4.1, hz4.2, hd4⟩ excAt_keep, hnext a na⟩
      | brk => obtain ⟨_, _, _, q⟩ := res; exact q.elim
      | cont => obtain ⟨_, _, _, q⟩ := res; exact q.elim
      | ret u => obtain ⟨_, _, _, _, _, q⟩ := res; exact q.elim
    | false =>
      show wpAny _ X.A (handleBy (.ref a) X.env []) _ _ _
      refine wpAny_handleBy_nil ?_
      obtain ⟨_, _, _, oe, vs, Tt, oT, ts', he, _, hd, ht1, _⟩ := id fly3
      unfold PySem.passOn
      refine wpAny_bind (wpAny_field he hd ht1 ?_)
      rw [if_neg (show ¬ ((Value.ref Tt == Value.none) = true) from by simp)]
      have fin : wpAny (model X.prog X.w) X.A (setFlight (.ref a) X.env.frame) (fun _ s4 => wpAny (model X.prog X.w) X.A (throw (.ref a) : Sem Flow) (SP X pins D) X.xe s4) X.xe { s' with heap := h3 } := by
        rw [hf]
        refine HandSPX.setFlight_upZ fly3 fun h4 held4 up4 => wpAny_throw (tk _ _ ?_)
        exact ⟨a, B, sI, pins, σ', H', cls, d, rfl, J, nb, (up.trans up3).trans up4, .inr (.inr (by rw [hs]; exact held4)), na, os, ag, hno rfl⟩
      first
        | exact wpAny_bind (wpAny_pure (wpAny_bind fin))
        | exact wpAny_bind fin
  · cases f with
    | next =>
      obtain ⟨σ1, H1, J1, q⟩ := done
      exact wpAny_execs_nil ⟨σ1, H1, J1.ofTry good, q⟩
    | brk =>
      obtain ⟨σ1, H1, J1, q⟩ := done
      exact ⟨σ1, H1, J1.ofTry good, q⟩
    | cont =>
      obtain ⟨σ1, H1, J1, q⟩ := done
      exact ⟨σ1, H1, J1.ofTry good, q⟩
    | ret u =>
      obtain ⟨v1, σ1, H1, J1, r1, q⟩ := done
      exact ⟨v1, σ1, H1, J1.ofTry good, r1, q⟩
end
end L2.Ms

namespace L2.Ms
open PySem PySem.Spec PyProof.Rows Mv
section
variable {g : Cfg} {X : Cx} {z : Fx} {W : WX} {L : Nat} {S : Sub} {T : Tab} {sc : Scope}
/-- a def's own frame runs -/
structure Own (X : Cx) : Prop where
  stk : X.stack = X.env :: X.outer
  fr : X.env.frame = some X.env.locals
  ex : X.ex = []
  fn : ∀ x, X.fn x = true
theorem ss_try (c : Ctx g X z W L S T sc) (o : Own X) {b : MB} {body : List Stmt} {i j : Nat} {n y : Str} {np py pm sp pos pos' : Pos} (hi : X.N[i]? = some y) (hj : X.N[j]? = some n) (hij : j ≠ i) (hly : sc.names.lookup y = some .local) (hln : sc.names.lookup n = some .local) (hR : ("RuleError" : Str) ∈ g.ec) (hG : sc.names.lookup ("RuleError" : Str) = some .globalImplicit)
    (hnd : (n == ("__debug__" : Str)) = false) (hnc : (n == ("__classdict__" : Str)) = false) (ho : z.own i = false) (hB : ∀ W' pn xe, Takes (X.tr pn xe) W' → PassesOwn (model X.prog X.w) X.A X.env xe → SB (X.tr pn xe) z W' S T b body) :
    SS X z W S T (.try_ b i j) (.Try body [.ExceptHandler (some (.Name "RuleError" np)) (some n) [.Assign [.Name y py] (.Name n pm) sp] pos'] [] [] pos) := fun σ H F G env m D er en h => by
  have kn : X.env.kindOf n = some .local := by show X.env.scope.names.lookup n = _; rw [c.sc]; exact hln
  have ky : X.env.kindOf y = some .local := by show X.env.scope.names.lookup y = _; rw [c.sc]; exact hly
  refine (ps_catch (tb := fun W' D σ H => ∃ F G env m, ER z σ H F G env m ∧ EN z F G ∧ PostS z W' D (evB S T b env m)) (Wout := W) o.stk o.fr o.ex c.good.nd hj kn hi ky hnd hnc ⟨c.gl hG, by decide, .inl (c.mf.excG _ hR)⟩ c.good.tk fun W' pn xe tk po => ⟨fun pins s σ H D I ⟨F, G, env, m, er, en, p⟩ => hB W' pn xe tk po σ H F G env m D er en p pins s I⟩).w ⟨F, G, env, m, er, en, ?_⟩
  simp only [evS] at h
  cases h1 : evB S T b env m with
  | nx env' n' => rw [h1] at h; exact h
  | rt d n' => rw [h1] at h; exact h
  | bad => rw [h1] at h; exact h
  | ex cn n' env' =>
    rw [h1] at h
    dsimp only at h
    split at h
    · rename_i hS
      have hc := c.mf.sub cn _ hS
      intro σ' H' F' G' er' en'
      rw [← c.good.K]
      refine ⟨true, by rw [c.mf.exm cn hc, hS], fun _ => ⟨rfl, fun a ha => ?_⟩, fun q => by cases q⟩
      have st := er'.refl.newF er'.dom0 (o := exO z.K cn a) ha
      have er2 := (er'.step st).set (i := i) (v := .ref a) (d := .exc cn) ho (.exc upd_same)
      have er3 := er2.gone (i := j)
      have eσ : ((σ'.set j (some (.ref a))).set i (some (.ref a))).set j none = (σ'.set i (some (.ref a))).set j none := by
        rw [List.set_comm _ _ hij, List.set_set]
      rw [eσ]
      have := h _ _ _ _ er3 (en'.step er' st)
      rw [← c.good.K] at this
      exact this
    · exact h.elim
end

/-! ### statements from the text -/
def locN (g : Cfg) (sc : Scope) (x : Str) : Bool := decide (g.N[g.N.idxOf x]? = some x) && locB sc x
def noSD : Expr → Bool
  | .SetComp .. => false
  | .DictComp .. => false
  | _ => true
def cSet (g : Cfg) (own : Nat → Bool) (sc : Scope) (rE : Expr → ME) (x : Str) (e : Expr) : MS := if noSD e && locN g sc x && !own (g.N.idxOf x) then .set (g.N.idxOf x) (rE e) else .bad
def cTry (g : Cfg) (own : Nat → Bool) (sc : Scope) (rB : List Stmt → MB) (body : List Stmt) (hs : List ExceptHandler) : MS := match hs with
  | [.ExceptHandler (some (.Name x _)) (some n) [.Assign [.Name y _] (.Name n' _) _] _] =>
    if x = "RuleError" ∧ n' = n ∧ g.N[g.N.idxOf y]? = some y ∧ g.N[g.N.idxOf n]? = some n ∧ g.N.idxOf n ≠ g.N.idxOf y ∧ sc.names.lookup y = some .local ∧ sc.names.lookup n = some .local ∧ ("RuleError" : Str) ∈ g.ec ∧
      sc.names.lookup ("RuleError" : Str) = some .globalImplicit ∧ (n == ("__debug__" : Str)) = false ∧ (n == ("__classdict__" : Str)) = false ∧ own (g.N.idxOf y) = false then .try_ (rB body) (g.N.idxOf y) (g.N.idxOf n) else .bad
  | _ => .bad
def cExp (g : Cfg) (own : Nat → Bool) (sc : Scope) (rE : Expr → ME) (e : Expr) : MS := match e with
  | .Call (.Attribute (.Name x _) m apos) [.Constant (.int 0) _ _] [] pos =>
    if m = "append" ∧ x = "town" ∧ g.N[g.N.idxOf x]? = some x ∧ locB sc x = true ∧ (apos.endLine == pos.line) = true ∧ own (g.N.idxOf x) = false then .tick (g.N.idxOf x) else .bad
  | e => if noComp e then .ex (rE e) else .bad
def cFor (g : Cfg) (own : Nat → Bool) (sc : Scope) (rI : Expr → MI) (rB : List Stmt → MB) (tg it : Expr) (b : List Stmt) : MS := match tgNames tg with
  | some xs => if xs.all (fun x => locN g sc x && !own (g.N.idxOf x)) && !isSetE it then .for_ (xs.map fun x => g.N.idxOf x) (rI it) (rB b) else .bad
  | none => .bad
def cRais (g : Cfg) (sc : Scope) (e : Expr) : MS := match e with
  | .Call (.Name x _) [.Constant (.str _) _ _] [] _ => if x ∈ g.ec ∧ sc.names.lookup x = some .globalImplicit ∧ (x == ("__debug__" : Str)) = false then .rais x else .bad
  | _ => .bad
mutual
def cS (g : Cfg) (own : Nat → Bool) : Nat → Scope → Stmt → MS
  | 0, _, _ => .bad
  | k + 1, sc, s => match s with
    | .Assign [.Name x _] e _ => cSet g own sc (cE g k sc) x e
    | .Expr e _ => cExp g own sc (cE g k sc) e
    | .If t a b _ => .if_ (cT g k sc t) (cB g own k sc a) (cB g own k sc b)
    | .For tg it b [] _ => cFor g own sc (cI g k sc) (cB g own k sc) tg it b
    | .While t b [] _ => .whl turnsW (cT g k sc t) (cB g own k sc b)
    | .Return (some e) _ => .ret (cE g k sc e)
    | .Return none _ => .ret (.c .non)
    | .Raise (some e) none _ => cRais g sc e
    | .Try b hs [] [] _ => cTry g own sc (cB g own k sc) b hs
    | _ => .bad
def cB (g : Cfg) (own : Nat → Bool) : Nat → Scope → List Stmt → MB
  | 0, _, _ => .cons .bad .nil
  | k + 1, sc, ss => match ss with
    | [] => .nil
    | s :: ss => .cons (cS g own k sc s) (cB g own k sc ss)
end
mutual
def okS (own : Nat → Bool) : MS → Bool
  | .set i e => okE own e && decide (2 ≤ lev own e)
  | .ex e => okE own e
  | .if_ t a b => okE own t && okB own a && okB own b
  | .for_ _ it b => okI own it && decide (2 ≤ levI own it) && okB own b
  | .whl _ t b => okE own t && okB own b
  | .ret e => okE own e
  | .try_ b _ _ => okB own b
  | .rais _ => true
  | .tick _ => true
  | .bad => true
  | _ => false
def okB (own : Nat → Bool) : MB → Bool
  | .nil => true
  | .cons s b => okS own s && okB own b
end
section
variable {g : Cfg} {X : Cx} {z : Fx} {W : WX} {L : Nat} {S : Sub} {T : Tab} {sc : Scope}
theorem soundN (c : Ctx g X z W L S T sc) (k : Nat) (e : Expr) (hn : noSD e = true) (h : okE z.own (cE g k sc e) = true) : SN X z W S T (cE g k sc e) e := by
  cases e with
  | ListComp elt gs scope q =>
    refine .inl ⟨elt, gs, scope, q, rfl, ?_⟩
    cases k with
    | zero => simp only [cE]; exact sl_bad
    | succ k =>
      obtain ⟨iE, iT, iA, iI⟩ := soundE g L S T k
      simp only [cE] at h ⊢
      exact cLc_ok c (iI sc X z W c) iT iE h
  | SetComp a b d e => simp [noSD] at hn
  | DictComp a b d e f => simp [noSD] at hn
  | _ => exact .inr ⟨rfl, (soundE g L S T k).1 sc X z W c _ h⟩
theorem Ctx.loc (c : Ctx g X z W L S T sc) {x : Str} (h : locN g sc x = true) : X.N[g.N.idxOf x]? = some x ∧ Loc X.env.scope x := by
  unfold locN locB at h
  simp only [Bool.and_eq_true, decide_eq_true_eq] at h
  refine ⟨by rw [c.N]; exact h.1, ?_⟩
  unfold Loc
  rw [c.sc]
  have h2 := h.2
  split at h2
  · rename_i q; exact .inl q
  · rename_i q; exact .inr q
  · cases h2
theorem Ctx.re (c : Ctx g X z W L S T sc) (F0 : Hp) : Ctx g X (z.re F0) W L S T sc := ⟨c.good, c.N, c.sc, c.mf, c.tab⟩
theorem Ctx.tr (c : Ctx g X z W L S T sc) {W' : WX} {pn : List (Addr × Obj)} {xe : Value → Shared → Prop} (tk : Takes (X.tr pn xe) W') (po : PassesOwn (model X.prog X.w) X.A X.env xe) : Ctx g (X.tr pn xe) z W' L S T sc := ⟨⟨c.good.calm, c.good.K, c.good.nd, c.good.room, po, tk⟩, c.N, c.sc, c.mf, c.tab⟩
theorem Own.tr (o : Own X) (pn : List (Addr × Obj)) (xe : Value → Shared → Prop) : Own (X.tr pn xe) := ⟨o.stk, o.fr, o.ex, o.fn⟩
end
/-- THE STATEMENTS -/
theorem soundS (g : Cfg) (own : Nat → Bool) (L : Nat) (S : Sub) (T : Tab) : ∀ k : Nat,
    (∀ sc X z W, Ctx g X z W L S T sc → Own X → z.own = own → ∀ s, okS own (cS g own k sc s) = true → SS X z W S T (cS g own k sc s) s) ∧
    (∀ sc X z W, Ctx g X z W L S T sc → Own X → z.own = own → ∀ ss, okB own (cB g own k sc ss) = true → SB X z W S T (cB g own k sc ss) ss)
  | 0 => by
    refine ⟨fun sc X z W c o ho s h => ?_, fun sc X z W c o ho s h => ?_⟩
    · simp only [cS]; exact ss_bad
    · simp only [cB]; exact fun _ _ _ _ _ _ _ _ _ q => q.elim
  | k + 1 => by
    obtain ⟨iS, iB⟩ := soundS g own L S T k
    obtain ⟨iE, iT, iA, iI⟩ := soundE g L S T k
    refine ⟨fun sc X z W c o ho s h => ?_, fun sc X z W c o ho ss h => ?_⟩
    · subst ho
      have jE := iE sc X z W c
      have jT := iT sc X z W c
      have jB := iB sc X z W c o rfl
      cases s with
      | Assign tgs e pos =>
        match tgs with
        | [.Name x p] =>
          simp only [cS] at h ⊢
          unfold cSet at h ⊢
          split
          · rename_i hc
            rw [if_pos hc] at h
            simp only [Bool.and_eq_true] at hc
            simp only [okS, Bool.and_eq_true, decide_eq_true_eq] at h
            obtain ⟨h1, h2⟩ := c.loc hc.1.2
            exact ss_set (soundN c k e hc.1.1 h.1) c.good.nd h1 h2 (.inl (o.fn x)) (by simpa using hc.2) h.2
          · exact ss_bad
        | [] => simp only [cS]; exact ss_bad
        | _ :: _ :: _ => simp only [cS]; exact ss_bad
        | [.BoolOp ..] | [.NamedExpr ..] | [.BinOp ..] | [.UnaryOp ..] | [.Lambda ..] | [.IfExp ..] | [.Dict ..] | [.Set ..] | [.ListComp ..] | [.SetComp ..] | [.DictComp ..] | [.GeneratorExp ..] | [.Await ..] | [.Yield ..] | [.YieldFrom ..] | [.Compare ..] | [.Call ..] | [.FormattedValue ..] | [.JoinedStr ..] | [.Constant ..] | [.Attribute ..] | [.Subscript ..] | [.Starred ..] | [.List ..] | [.Tuple ..] | [.Slice ..] => simp only [cS]; exact ss_bad
      | Expr e pos =>
        simp only [cS] at h ⊢
        generalize hm : cExp g z.own sc (cE g k sc) e = m at h ⊢
        unfold cExp at hm
        split at hm
        · split at hm
          · rename_i hc
            obtain ⟨rfl, rfl, h1, h2, h3, h4⟩ := hc
            subst hm
            have hl := c.loc (x := "town") (by unfold locN; simp only [Bool.and_eq_true, decide_eq_true_eq]; exact ⟨h1, h2⟩)
            exact ss_tick hl.1 (by rcases hl.2 with q | q; exact .inl q; exact .inr (.inl q)) (by decide) (by decide) h3 h4
          · subst hm; exact ss_bad
        · split at hm
          · rename_i hc
            subst hm
            refine ss_ex ?_ (jE _ h)
            cases e <;> first | rfl | (simp [noComp] at hc)
          · subst hm; exact ss_bad
      | If t a b pos =>
        simp only [cS, okS, Bool.and_eq_true] at h ⊢
        exact ss_if (jT _ h.1.1) (jB _ h.1.2) (jB _ h.2)
      | For tg it b els pos =>
        cases els with
        | cons _ _ => simp only [cS]; exact ss_bad
        | nil =>
          simp only [cS] at h ⊢
          generalize hm : cFor g z.own sc (cI g k sc) (cB g z.own k sc) tg it b = m at h ⊢
          unfold cFor at hm
          split at hm
          · rename_i xs hxs
            split at hm
            · rename_i hc
              simp only [Bool.and_eq_true, List.all_eq_true] at hc
              subst hm
              simp only [okS, Bool.and_eq_true, decide_eq_true_eq] at h
              refine ss_for c (iI sc X z W c tg it h.1.1) h.1.2 ?_ ?_ (fun F0 => iB sc X (z.re F0) W (c.re F0) o rfl b h.2) ?_
              · have q := pg_of (Y := X) hxs c.good.calm c.good.nd fun x hx => by
                  obtain ⟨h1, h2⟩ := c.loc (hc.1 x hx).1
                  exact ⟨by rw [c.N]; rw [c.N] at h1; exact h1, h2, .inl (o.fn x)⟩
                rw [c.N] at q
                exact q
              · intro i hi
                obtain ⟨x, hx, rfl⟩ := List.mem_map.mp hi
                simpa using (hc.1 x hx).2
              · intro x
                have := hc.2
                cases it <;> first | rfl | (simp [isSetE] at this)
            · subst hm; exact ss_bad
          · subst hm; exact ss_bad
      | While t b els pos =>
        cases els with
        | cons _ _ => simp only [cS]; exact ss_bad
        | nil =>
          simp only [cS, okS, Bool.and_eq_true] at h ⊢
          exact ss_whl c (jT _ h.1) (jB _ h.2)
      | Return v pos =>
        cases v with
        | none => simp only [cS]; exact ss_retN
        | some e => simp only [cS, okS] at h ⊢; exact ss_ret (jE _ h)
      | Raise e cause pos =>
        cases e with
        | none => simp only [cS]; exact ss_bad
        | some e =>
          cases cause with
          | some _ => simp only [cS]; exact ss_bad
          | none =>
            simp only [cS] at h ⊢
            generalize hm : cRais g sc e = m at h ⊢
            unfold cRais at hm
            split at hm
            · split at hm
              · rename_i hc
                subst hm
                exact ss_rais c hc.1 hc.2.1 hc.2.2
              · subst hm; exact ss_bad
            · subst hm; exact ss_bad
      | Try b hs els fin pos =>
        cases els with
        | cons _ _ => simp only [cS]; exact ss_bad
        | nil =>
          cases fin with
          | cons _ _ => simp only [cS]; exact ss_bad
          | nil =>
            simp only [cS] at h ⊢
            generalize hm : cTry g z.own sc (cB g z.own k sc) b hs = m at h ⊢
            unfold cTry at hm
            split at hm
            · split at hm
              · rename_i hc
                obtain ⟨rfl, rfl, h1, h2, h3, h4, h5, h6, h7, h8, h9, h10⟩ := hc
                subst hm
                exact ss_try c o (by rw [c.N]; exact h1) (by rw [c.N]; exact h2) h3 h4 h5 h6 h7 h8 h9 h10 fun W' pn xe tk po => iB sc _ z W' (c.tr tk po) (o.tr pn xe) rfl b h
              · subst hm; exact ss_bad
            · subst hm; exact ss_bad
      | _ => simp only [cS]; exact ss_bad
    · cases ss with
      | nil => simp only [cB]; exact sb_nil
      | cons s ss =>
        simp only [cB, okB, Bool.and_eq_true] at h ⊢
        exact sb_cons (iS sc X z W c o ho s h.1) (iB sc X z W c o ho ss h.2)
end L2.Ms

namespace L2.Ms
open PySem PySem.Spec PyProof.Rows Mv
/-! ### defs -/
theorem er_start {c : Cn} {own : Nat → Bool} {H F : Hp} {vs : List V} {ds : List D} {N : List Str} {n : Nat} (l : Le F H) (tw : ∀ a, c.pt = some a → H a = some (.lst (List.replicate n (.int 0))) ∧ F a = none) (r : RepL c F vs ds) (ho : ∀ i, i < ds.length → own i = false) :
    ER { c with H0 := H, F0 := F, own := own } (start N vs) H F F (ds.map some ++ List.replicate (N.length - ds.length) none) n where
  fg := .rfl
  gh := l
  h0 := fun _ _ e _ => e
  tw := fun a q => ⟨(tw a q).1, (tw a q).2, by show H a ≠ none; rw [(tw a q).1]; simp⟩
  val := fun i d h hi => by
    have hlt : i < ds.length := by
      refine Classical.byContradiction fun q => ?_
      rw [List.getElem?_append_right (by simpa using q)] at h
      have := List.getElem?_eq_some_iff.mp h
      obtain ⟨h1, h2⟩ := this
      rw [List.getElem_replicate] at h2
      cases h2
    rw [List.getElem?_append_left (by simpa using hlt), List.getElem?_map] at h
    obtain ⟨d', h1, h2⟩ := Option.map_eq_some_iff.mp h
    cases h2
    obtain ⟨v, hv, rv⟩ := r.get h1
    refine ⟨v, ?_, rv⟩
    unfold start
    have hl := r.length
    rw [List.getElem?_append_left (by rw [List.length_map]; omega), List.getElem?_map, hv]
    rfl
  ow := fun i d h hi => by
    have hlt : i < ds.length := by
      refine Classical.byContradiction fun q => ?_
      rw [List.getElem?_append_right (by simpa using q)] at h
      obtain ⟨h1, h2⟩ := List.getElem?_eq_some_iff.mp h
      rw [List.getElem_replicate] at h2
      cases h2
    have hi : own i = true := hi
    rw [ho i hlt] at hi
    cases hi
  dis := fun i j d e p hne hi hj h1 h2 h3 => by
    have hlt : i < ds.length := by
      refine Classical.byContradiction fun q => ?_
      rw [List.getElem?_append_right (by simpa using q)] at h1
      obtain ⟨a1, a2⟩ := List.getElem?_eq_some_iff.mp h1
      rw [List.getElem_replicate] at a2
      cases a2
    have hi : own i = true := hi
    rw [ho i hlt] at hi
    cases hi
  len := by
    unfold start
    have hl := r.length
    simp [hl]
theorem rt_stepC {z : Fx} {H G : Hp} {n : Nat} (r : RT z H G n) : StepC z.pt z.H0 z.F0 H G n := ⟨r.f0, r.gh, r.nw, r.h0, r.tw⟩
theorem fn_sound {P : Program} {w : World} {K : PySem.W.Frag} {mg : Str → Option Value} {base : Heap} {L : Nat} {S : Sub} {T : Tab} {x : Str} {params : Arguments} {body : List Stmt} {scope : Scope} {f : Addr} {fd : FuncData} {g : Cfg} {own : Nat → Bool} {ps : List Str} {k : Nat} {b : MB}
    (F : FunD K x x params body scope [] [] f fd) (hf : mg x = some (.ref f)) (sc : FnScope g.N ps scope) (M : MF g.fr g.gc g.ec S K mg) (tab : TabOk P w K mg base L T) (hb : cB g own k scope body = b) (hok : okB own b = true) (ho : ∀ i, i < ps.length → own i = false)
    (hbd : ∀ (kV doc pm : Value) (an : Option Addr) (cdv ct : Value) (us : List Value), us.length = ps.length → bindArgs (PySem.W.fnOf x x params body scope .none kV doc pm an cdv ct) ⟨us, []⟩ = pure (ps.zip us)) :
    FnG P w K mg base (L + 1) x ps.length (evF S T g.N.length b) := by
  refine ⟨f, fd, ps, ?_, hf, F.kp, F.bindsN hbd, rfl⟩
  refine F.ok (N := g.N) sc (fun vs H Q E h => h.1) fun cdv A outer s H vs Q E hr h => ?_
  obtain ⟨hlen, pt, F0, n, ds, hle, htw, hrep, hpost⟩ := h
  let X : Cx := cxOf (L2.CX P w) P w K mg base g.N x scope f cdv A outer s H E
  let z : Fx := { K := K, pt := pt, H0 := H, F0 := F0, own := own }
  let W : WX := fun cls d _ H => E cls d H
  have gd : Good X z.toCn W L := ⟨rfl, rfl, sc.nd, hr, passes_of rfl, takes_of rfl rfl rfl rfl⟩
  have cx : Ctx g X z W L S T scope := ⟨gd, rfl, rfl, M, tab⟩
  have ow : Own X := ⟨rfl, rfl, rfl, fun _ => rfl⟩
  have hdl : ds.length = ps.length := by rw [← hrep.length]; exact hlen
  have er : ER z (start g.N vs) H F0 F0 (ds.map some ++ List.replicate (g.N.length - ds.length) none) n := er_start (c := ⟨K, pt⟩) hle htw hrep fun i hi => ho i (by omega)
  have en : EN z F0 F0 := ⟨.rfl, fun a h => .inl h⟩
  refine ⟨wSs X body, pssW body, ?_⟩
  have sb := (soundS g own L S T k).2 scope X z W cx ow rfl body (by rw [hb]; exact hok)
  rw [hb] at sb
  refine sb _ _ _ _ _ _ _ er en ?_
  unfold evF at hpost
  cases h1 : evB S T b (ds.map some ++ List.replicate (g.N.length - ds.length) none) n with
  | nx env' n' =>
    rw [h1] at hpost
    exact fun σ' H' F' G' er' en' => hpost .non H' G' (rt_stepC (er'.rt en')) .non
  | rt d n' =>
    rw [h1] at hpost
    exact fun v H' G' rt r => hpost v H' G' (rt_stepC rt) r
  | ex c n' env' =>
    rw [h1] at hpost
    exact fun σ' H' F' G' er' en' => hpost H' G' (rt_stepC (er'.rt en'))
  | bad =>
    rw [h1] at hpost
    exact hpost
theorem FnG.mono {P : Program} {w : World} {K : PySem.W.Frag} {mg : Str → Option Value} {base : Heap} {L M : Nat} {f : Str} {k : Nat} {run : List D → Nat → Out D} (h : FnG P w K mg base L f k run) (l : L ≤ M) : FnG P w K mg base M f k run := by
  obtain ⟨a, fd, ps, h1, h2⟩ := h.ex
  exact ⟨a, fd, ps, h1.mono l, h2⟩
/-! ### tables of defs -/
theorem tab_nil {P : Program} {w : World} {K : PySem.W.Frag} {mg : Str → Option Value} {base : Heap} {L : Nat} : TabOk P w K mg base L (tabOf []) := fun f k run h => by cases h
theorem tab_cons {P : Program} {w : World} {K : PySem.W.Frag} {mg : Str → Option Value} {base : Heap} {L M : Nat} {e : En} {r : List En} (h : FnG P w K mg base M e.f e.k e.run) (l : M ≤ L) (t : TabOk P w K mg base L (tabOf r)) : TabOk P w K mg base L (tabOf (e :: r)) := fun f k run q => by
  unfold tabOf at q
  split at q
  · rename_i hf
    subst hf
    cases q
    exact h.mono l
  · exact t f k run q
/-! ### the law -/
theorem takesW0 {X : Cx} : Takes X W0 := fun _ _ x => by
  obtain ⟨_, _, _, _, _, _, _, _, _, _, _, _, _, _, _, _, q⟩ := x
  exact q.elim
theorem law_sound {P : Program} {w : World} {K : PySem.W.Frag} {mg : Str → Option Value} {base : Heap} {L : Nat} {S : Sub} {T : Tab} {x : Str} {params : Arguments} {rest : List Stmt} {scope : Scope} {f : Addr} {fd : FuncData} {g : Cfg} {own : Nat → Bool} {k : Nat} {b : MB} {p1 p2 p3 : Pos} {N' : List Str}
    (F : FunD K x x params (.Assign [.Name "town" p1] (.List [] p2) p3 :: rest) scope [] [] f fd) (hN : g.N = ("script" : Str) :: ("town" : Str) :: N') (sc : FnScope g.N ["script"] scope) (hl : locB scope "town" = true) (M : MF g.fr g.gc g.ec S K mg) (tab : TabOk P w K mg base L T) (hb : cB g own k scope rest = b) (hok : okB own b = true) (h0 : own 0 = false) (h1 : own 1 = false)
    (pure_law : ∀ ns : List Int, ns.length ≤ 63 → ∃ n, evB S T b (some (.scr ns) :: some .town :: List.replicate N'.length none) 0 = .rt (.bl true) n) :
    FnOk P w K mg base CX0 (L + 1) f fd ["script"] (fun vs H Q E => ∃ (a : Addr) (ns : List Int), vs = [.ref a] ∧ ns.length ≤ 63 ∧ SqL K H a (ns.map V.int) ∧ ∀ H', Q (.bl true) H') := by
  refine F.ok (N := g.N) sc (fun vs H Q E h => ?_) fun cdv A outer s H vs Q E hr h => ?_
  · obtain ⟨a, ns, rfl, _⟩ := h
    rfl
  obtain ⟨a, ns, rfl, hlen, hS, hQ⟩ := h
  let X : Cx := cxOf CX0 P w K mg base g.N x scope f cdv A outer s H E
  have hx : Loc X.env.scope "town" := by
    show Loc scope "town"
    unfold locB at hl
    unfold Loc
    split at hl
    · rename_i q; exact .inl q
    · rename_i q; exact .inr q
    · cases hl
  have hi : X.N[1]? = some ("town" : Str) := by show g.N[1]? = _; rw [hN]; rfl
  refine ⟨_, pss_cons (ps_set (i := 1) (show X.N.Nodup from sc.nd) hi hx (pe_lst pa_nil) rfl (.inl rfl)) (pssW rest), ?_⟩
  refine ⟨Nat.zero_le _, fun p hp => ?_⟩
  let H1 : Hp := upd H p (.lst [])
  let z : Fx := { K := K, pt := some p, H0 := H1, F0 := H, own := own }
  let W : WX := W0
  have gd : Good X z.toCn W L := ⟨rfl, rfl, sc.nd, hr, passes_of rfl, takesW0⟩
  have cx : Ctx g X z W L S T scope := ⟨gd, rfl, rfl, M, tab⟩
  have ow : Own X := ⟨rfl, rfl, rfl, fun _ => rfl⟩
  have le : Le H H1 := Le.grow hp
  have eσ : (start g.N [V.ref a]).set 1 (some (.ref p)) = some (.ref a) :: some (.ref p) :: List.replicate N'.length none := by
    unfold start
    rw [hN]
    rfl
  have er : ER z (some (.ref a) :: some (.ref p) :: List.replicate N'.length none) H1 H H (some (.scr ns) :: some .town :: List.replicate N'.length none) 0 := by
    have out : ∀ (i : Nat) (d : Mv.D), (some (Mv.D.scr ns) :: some .town :: List.replicate N'.length none)[i]? = some (some d) → (i = 0 ∧ d = .scr ns) ∨ (i = 1 ∧ d = .town) := fun i d h => by
      match i, h with
      | 0, h => cases h; exact .inl ⟨rfl, rfl⟩
      | 1, h => cases h; exact .inr ⟨rfl, rfl⟩
      | i + 2, h =>
        obtain ⟨a1, a2⟩ := List.getElem?_eq_some_iff.mp h
        simp at a2
    refine ⟨.rfl, le, fun _ _ e _ => e, fun b q => ?_, fun i d h hi => ?_, fun i d h hi => ?_, fun i j d e q hne hi hj h1' h2 h3 => ?_, by simp⟩
    · cases q
      exact ⟨upd_same, hp, by show H1 p ≠ none; rw [show H1 p = _ from upd_same]; simp⟩
    · rcases out i d h with ⟨rfl, rfl⟩ | ⟨rfl, rfl⟩
      · exact ⟨_, rfl, .scr hS⟩
      · exact ⟨_, rfl, .town rfl⟩
    · rcases out i d h with ⟨rfl, rfl⟩ | ⟨rfl, rfl⟩
      · rw [show own 0 = true from hi] at h0; cases h0
      · rw [show own 1 = true from hi] at h1; cases h1
    · rcases out i d h1' with ⟨rfl, rfl⟩ | ⟨rfl, rfl⟩
      · rw [show own 0 = true from hi] at h0; cases h0
      · rw [show own 1 = true from hi] at h1; cases h1
  have en : EN z H H := ⟨.rfl, fun a h => .inl h⟩
  show wSs X rest _ ((start g.N [V.ref a]).set 1 (some (.ref p))) H1
  rw [eσ]
  have sb := (soundS g own L S T k).2 scope X z W cx ow rfl rest (by rw [hb]; exact hok)
  rw [hb] at sb
  refine sb _ _ _ _ _ _ _ er en ?_
  obtain ⟨n, hn⟩ := pure_law ns hlen
  rw [hn]
  intro v H' G' rt r
  cases r
  exact hQ H'
end L2.Ms

namespace L2.Ms
open PySem PySem.Spec PyProof.Rows Mv
theorem fn_none {P : Program} {w : World} {K : PySem.W.Frag} {mg : Str → Option Value} {base : Heap} {L : Nat} {x : Str} {params : Arguments} {body : List Stmt} {scope : Scope} {f : Addr} {fd : FuncData} {ps : List Str}
    (F : FunD K x x params body scope [] [] f fd) (hf : mg x = some (.ref f))
    (hbd : ∀ (kV doc pm : Value) (an : Option Addr) (cdv ct : Value) (us : List Value), us.length = ps.length → bindArgs (PySem.W.fnOf x x params body scope .none kV doc pm an cdv ct) ⟨us, []⟩ = pure (ps.zip us)) :
    FnG P w K mg base L x ps.length (fun _ _ => .bad) := by
  refine ⟨f, fd, ps, ⟨fun vs H Q E h => h.1, fun A outer s H args us vs Q E _ _ _ _ h => ?_⟩, hf, F.kp, F.bindsN hbd, rfl⟩
  obtain ⟨_, _, _, _, _, _, _, _, q⟩ := h
  exact q.elim
theorem self_sound {P : Program} {w : World} {K : PySem.W.Frag} {mg : Str → Option Value} {base : Heap} {L : Nat} {S : Sub} {r : List En} {x : Str} {params : Arguments} {body : List Stmt} {scope : Scope} {f : Addr} {fd : FuncData} {g : Cfg} {own : Nat → Bool} {ps : List Str} {k : Nat} {b : MB}
    (F : FunD K x x params body scope [] [] f fd) (hf : mg x = some (.ref f)) (sc : FnScope g.N ps scope) (M : MF g.fr g.gc g.ec S K mg) (tab : TabOk P w K mg base L (tabOf r)) (hb : cB g own k scope body = b) (hok : okB own b = true) (ho : ∀ i, i < ps.length → own i = false)
    (hbd : ∀ (kV doc pm : Value) (an : Option Addr) (cdv ct : Value) (us : List Value), us.length = ps.length → bindArgs (PySem.W.fnOf x x params body scope .none kV doc pm an cdv ct) ⟨us, []⟩ = pure (ps.zip us)) :
    ∀ m, FnG P w K mg base (L + m) x ps.length (selfRun S x ps.length g.N.length b r m)
  | 0 => fn_none F hf hbd
  | m + 1 => fn_sound F hf sc M (tab_cons (e := ⟨x, ps.length, selfRun S x ps.length g.N.length b r m⟩) (self_sound F hf sc M tab hb hok ho hbd m) (Nat.le_refl _) fun f k run q => (tab f k run q).mono (Nat.le_add_right _ _)) hb hok ho hbd
theorem fd_eq {K : PySem.W.Frag} {x : Str} {params : Arguments} {body : List Stmt} {scope : Scope} {f : Addr} {fd fd' : FuncData} (F : FunD K x x params body scope [] [] f fd) (F' : FunD K x x params body scope [] [] f fd') : fd = fd' := by
  obtain ⟨_, _, _, _, _, _, _, _, _, _, _, l1, _⟩ := F.ex
  obtain ⟨_, _, _, _, _, _, _, _, _, _, _, l2, _⟩ := F'.ex
  rw [l1] at l2
  cases l2
  rfl
/-! ### what the head tells -/
def excCB (K : PySem.W.Frag) (D : Addr) : Bool := He.eqO (PySem.W.findIn K (.ref D) "__getattribute__") (some (some (.builtin "BaseException.__getattribute__"))) && He.eqO (PySem.W.findIn K (.ref D) "__getattr__") (some none) &&
  decide (PySem.W.subIn K (.ref D) (.type "BaseException") = some true) && PySem.W.hasDictIn K D && He.eqO (PySem.W.findIn K (.ref D) "__class__") (some (some (.builtin "object.__class__"))) &&
  He.eqO (PySem.W.specialIn K (.builtin "object.__class__") "__get__") (some (some (.builtin "getset_descriptor.__get__"))) && decide (PySem.W.takesIn K (.builtin "object.__class__") = some true) && decide (PySem.W.mroIn K D (.type "object") = some true)
theorem excCB_ok {K : PySem.W.Frag} {D : Addr} (h : excCB K D = true) : ExcC K D := by
  unfold excCB at h
  simp only [Bool.and_eq_true, decide_eq_true_eq] at h
  obtain ⟨⟨⟨⟨⟨⟨⟨a, b⟩, c⟩, d⟩, e⟩, f⟩, g⟩, i⟩ := h
  exact ⟨He.eqO_ok a, He.eqO_ok b, c, d, He.eqO_ok e, He.eqO_ok f, g, i⟩
def conB : Str × D → PySem.W.Frag → Bool
  | (x, .int i), K => (He.Fa.int x i).ok K
  | (x, .str s), K => (He.Fa.str x s).ok K
  | _, _ => false
def mfB (fr : List Str) (gc : List (Str × D)) (ec : List Str) (K : PySem.W.Frag) : Bool := (fr.all fun x => (He.Fa.free x).ok K) && (gc.all fun q => conB q K) &&
  (ec.all fun c => (He.Fa.glo c).ok K && excCB K (He.ga K c) && (He.Fa.exc c).ok K && (ec.all fun x => decide (PySem.W.kitOne K (.ref (He.ga K c)) (.ref (He.ga K x)) = some (subS ec c x))) &&
    decide (PySem.W.kitOne K (.ref (He.ga K c)) (.type "ValueError") = some (subS ec c "ValueError")) && decide (PySem.W.exmOne K (.ref (He.ga K c)) (.ref (He.ga K "RuleError")) = some (subS ec c "RuleError")))
theorem lookup_memD {x : Str} {d : D} : ∀ {gc : List (Str × D)}, gc.lookup x = some d → (x, d) ∈ gc
  | [], h => by cases h
  | (y, e) :: r, h => by
    rw [List.lookup_cons] at h
    split at h
    · rename_i q
      cases h
      rw [beq_iff_eq.mp q]
      exact List.mem_cons_self
    · exact List.mem_cons_of_mem _ (lookup_memD h)
theorem mf_of {fr : List Str} {gc : List (Str × D)} {ec : List Str} {K : PySem.W.Frag} {h : Heap} {mg : Str → Option Value} (X : K.In h) (G : h.Ns mainGlobals mg) (c : mfB fr gc ec K = true) : MF fr gc ec (subS ec) K mg := by
  unfold mfB at c
  simp only [Bool.and_eq_true, List.all_eq_true, decide_eq_true_eq] at c
  obtain ⟨⟨c1, c2⟩, c3⟩ := c
  refine ⟨fun x hx => He.free_ok X G (c1 x hx), fun x d hd => ?_, fun c hc => He.glo_ok X G (c3 c hc).1.1.1.1.1, fun c hc => excCB_ok (c3 c hc).1.1.1.1.2, fun c hc => ?_, fun c hc x hx => (c3 c hc).1.1.2 x hx, fun c hc => (c3 c hc).1.2, fun c hc => (c3 c hc).2, fun c x q => ?_⟩
  · have q := c2 _ (lookup_memD hd)
    cases d with
    | int i =>
      obtain ⟨t, e⟩ := He.int_ok X G (x := x) (i := i) q
      exact ⟨_, .int i, e, ⟨t, rfl⟩, fun _ _ => .int i⟩
    | str s =>
      obtain ⟨t, e⟩ := He.str_ok X G (x := x) (z := s) q
      exact ⟨_, .str s, e, ⟨t, rfl⟩, fun _ _ => .str s⟩
    | _ => cases q
  · obtain ⟨a, b, _, d⟩ := He.exc_ok (c3 c hc).1.1.1.2
    exact ⟨a, b, d⟩
  · unfold subS at q
    simp only [Bool.and_eq_true, decide_eq_true_eq] at q
    exact q.1
/-! ### the Hook -/
abbrev Al : Type := He.AlD × Bool
def obsM (n : Nat) (fa : List He.Fa) (fn : List He.DefD) (ex : PySem.W.Frag → Bool) (g : Addr → Option Obj) : Al := (He.obsD fa fn (He.frG g (He.asD g n)), ex (He.frG g (He.asD g n)))
def hookM (n : Nat) (fa : List He.Fa) (fn : List He.DefD) (ex : PySem.W.Frag → Bool) : PySem.W.Hook where
  α := Al
  obs := fun s => obsM n fa fn ex s.heap.get?
  val := fun _ => (He.valD fn, true)
  says := fun _ h => ∃ K : PySem.W.Frag, K.In h ∧ He.SaysD fa fn K ∧ ex K = true
  of := fun _ _ e => ⟨_, He.frG_in, congrArg (fun z : Al => z.1) e, congrArg (fun z : Al => z.2) e⟩
  keeps := fun _ _ _ ⟨K, hK, c⟩ k => ⟨K, PySem.W.Frag.In.keeps hK k, c⟩
theorem obsM_eq {n : Nat} {fa : List He.Fa} {fn : List He.DefD} {ex : PySem.W.Frag → Bool} {g : Addr → Option Obj} {s : Shared} (h : ∀ a, g a = s.heap.get? a) : obsM n fa fn ex g = (hookM n fa fn ex).obs s := by
  have e : g = s.heap.get? := funext h
  rw [e] <;> rfl
end L2.Ms

namespace Ko
open PySem (Str)
open Mv
def ec : List Str := ["RuleError", "BadTable", "BadThing", "BadParting", "BadSaying", "BadLeading", "BadNumber", "TooGreat", "BadText"]
def N_look_table : List Str := ["table", "size", "row", "thing"]
def b_look_table : MB := (.cons (.set 1 (.p1 .len (.v 0))) (.cons (.if_ (.or (.p1 .not_ (.chn .le .le (.c (.int 1)) (.v 1) (.c (.int 6)))) (.p1 .not_ (.p1 .tru (.p1 .all_ (.lc [2] (.sq (.v 0)) (.c (.bl true)) (.p2 .eq (.p1 .len (.v 2)) (.v 1))))))) (.cons (.rais "BadTable") .nil) .nil) (.cons (.if_ (.p1 .not_ (.p1 .tru (.p1 .all_ (.lc [2] (.sq (.v 0)) (.c (.bl true)) (.p1 .all_ (.lc [3] (.sq (.v 2)) (.c (.bl true)) (.chn .le .lt (.c (.int 0)) (.v 3) (.v 1)))))))) (.cons (.rais "BadTable") .nil) .nil) .nil)))
def c_look_table (S : Sub) : List En := []
def r_look_table (S : Sub) : List D → Nat → Out D := evF S (tabOf (c_look_table S)) 4 b_look_table
def N_look_thing : List Str := ["table", "thing"]
def b_look_thing : MB := (.cons (.if_ (.p1 .not_ (.chn .le .lt (.c (.int 0)) (.v 1) (.p1 .len (.v 0)))) (.cons (.rais "BadThing") .nil) .nil) .nil)
def c_look_thing (S : Sub) : List En := []
def r_look_thing (S : Sub) : List D → Nat → Out D := evF S (tabOf (c_look_thing S)) 2 b_look_thing
def N_look_things : List Str := ["table", "some", "thing"]
def b_look_things : MB := (.cons (.ex (.call "look_table" (.cons (.v 0) .nil))) (.cons (.for_ [2] (.sq (.v 1)) (.cons (.ex (.call "look_thing" (.cons (.v 0) (.cons (.v 2) .nil)))) .nil)) .nil))
def c_look_things (S : Sub) : List En := [⟨"look_table", 1, r_look_table S⟩, ⟨"look_thing", 2, r_look_thing S⟩]
def r_look_things (S : Sub) : List D → Nat → Out D := evF S (tabOf (c_look_things S)) 3 b_look_things
def N_of_two : List Str := ["table", "one", "other"]
def b_of_two : MB := (.cons (.ex (.call "look_things" (.cons (.v 0) (.cons (.lst (.cons (.v 1) (.cons (.v 2) .nil))) .nil)))) (.cons (.ret (.p2 .idx (.p2 .idx (.v 0) (.v 1)) (.v 2))) .nil))
def c_of_two (S : Sub) : List En := [⟨"look_things", 2, r_look_things S⟩]
def r_of_two (S : Sub) : List D → Nat → Out D := evF S (tabOf (c_of_two S)) 3 b_of_two
def N_call : List Str := ["table", "names", "size", "found", "k", "one", "other", "row"]
def b_call : MB := (.cons (.set 2 (.p1 .len (.v 0))) (.cons (.set 3 (.lc [4] (.rg (.v 2)) (.c (.bl true)) (.p2 .mul (.lst (.cons (.c (.int 0)) .nil)) (.v 2)))) (.cons (.for_ [5] (.rg (.v 2)) (.cons (.for_ [6] (.rg (.v 2)) (.cons .bad .nil)) .nil)) (.cons (.ret (.p1 .toT (.lc [7] (.sq (.v 3)) (.c (.bl true)) (.p1 .toT (.v 7))))) .nil))))
def c_call (S : Sub) : List En := []
def r_call (S : Sub) : List D → Nat → Out D := evF S (tabOf (c_call S)) 8 b_call
def N_renamed : List Str := ["table", "names"]
def b_renamed : MB := (.cons (.ex (.call "look_table" (.cons (.v 0) .nil))) (.cons (.if_ (.p2 .ne (.p1 .srt (.v 1)) (.p1 .rngL (.p1 .len (.v 0)))) (.cons (.rais "BadThing") .nil) .nil) (.cons (.ret (.call "call" (.cons (.v 0) (.cons (.v 1) .nil)))) .nil)))
def c_renamed (S : Sub) : List En := [⟨"look_table", 1, r_look_table S⟩, ⟨"call", 2, r_call S⟩]
def r_renamed (S : Sub) : List D → Nat → Out D := evF S (tabOf (c_renamed S)) 2 b_renamed
def N_times : List Str := ["one", "other", "size", "found", "k", "row", "j"]
def b_times : MB := (.cons (.ex (.call "look_table" (.cons (.v 0) .nil))) (.cons (.ex (.call "look_table" (.cons (.v 1) .nil))) (.cons (.set 2 (.p1 .len (.v 1))) (.cons (.if_ (.p2 .gt (.p2 .mul (.p1 .len (.v 0)) (.v 2)) (.c (.int 6))) (.cons (.rais "TooGreat") .nil) .nil) (.cons (.set 3 (.lst .nil)) (.cons (.for_ [4] (.rg (.p2 .mul (.p1 .len (.v 0)) (.v 2))) (.cons (.set 5 (.lc [6] (.rg (.p2 .mul (.p1 .len (.v 0)) (.v 2))) (.c (.bl true)) (.p2 .add (.p2 .mul (.p2 .idx (.p2 .idx (.v 0) (.p2 .fdiv (.v 4) (.v 2))) (.p2 .fdiv (.v 6) (.v 2))) (.v 2)) (.p2 .idx (.p2 .idx (.v 1) (.p2 .mod (.v 4) (.v 2))) (.p2 .mod (.v 6) (.v 2)))))) (.cons (.ex .bad) .nil))) (.cons (.ret (.p1 .toT (.v 3))) .nil)))))))
def c_times (S : Sub) : List En := [⟨"look_table", 1, r_look_table S⟩]
def r_times (S : Sub) : List D → Nat → Out D := evF S (tabOf (c_times S)) 7 b_times
def N_look_parting : List Str := ["table", "parting", "thing", "least"]
def b_look_parting : MB := (.cons (.ex (.call "look_table" (.cons (.v 0) .nil))) (.cons (.if_ (.or (.p2 .ne (.p1 .len (.v 1)) (.p1 .len (.v 0))) (.p1 .not_ (.p1 .tru (.p1 .all_ (.lc [2] (.rg (.p1 .len (.v 1))) (.c (.bl true)) (.chn .le .le (.c (.int 0)) (.p2 .idx (.v 1) (.v 2)) (.v 2))))))) (.cons (.rais "BadParting") .nil) .nil) (.cons (.if_ (.p1 .not_ (.p1 .tru (.p1 .all_ (.lc [3] (.sq (.v 1)) (.c (.bl true)) (.p2 .eq (.p2 .idx (.v 1) (.v 3)) (.v 3)))))) (.cons (.rais "BadParting") .nil) .nil) .nil)))
def c_look_parting (S : Sub) : List En := [⟨"look_table", 1, r_look_table S⟩]
def r_look_parting (S : Sub) : List D → Nat → Out D := evF S (tabOf (c_look_parting S)) 4 b_look_parting
def N_does_keep : List Str := ["table", "parting", "size", "one", "other"]
def b_does_keep : MB := (.cons (.set 2 (.p1 .len (.v 0))) (.cons (.for_ [3] (.rg (.v 2)) (.cons (.for_ [4] (.rg (.v 2)) (.cons (.if_ (.p2 .ne (.p2 .idx (.v 1) (.p2 .idx (.p2 .idx (.v 0) (.v 3)) (.v 4))) (.p2 .idx (.v 1) (.p2 .idx (.p2 .idx (.v 0) (.p2 .idx (.v 1) (.v 3))) (.p2 .idx (.v 1) (.v 4))))) (.cons (.ret (.c (.bl false))) .nil) .nil) .nil)) .nil)) (.cons (.ret (.c (.bl true))) .nil)))
def c_does_keep (S : Sub) : List En := []
def r_does_keep (S : Sub) : List D → Nat → Out D := evF S (tabOf (c_does_keep S)) 5 b_does_keep
def N_is_kept : List Str := ["table", "parting"]
def b_is_kept : MB := (.cons (.ex (.call "look_parting" (.cons (.v 0) (.cons (.v 1) .nil)))) (.cons (.ret (.call "does_keep" (.cons (.v 0) (.cons (.v 1) .nil)))) .nil))
def c_is_kept (S : Sub) : List En := [⟨"look_parting", 2, r_look_parting S⟩, ⟨"does_keep", 2, r_does_keep S⟩]
def r_is_kept (S : Sub) : List D → Nat → Out D := evF S (tabOf (c_is_kept S)) 2 b_is_kept
def N_tidied : List Str := ["parting", "name"]
def b_tidied : MB := (.cons (.ret (.p1 .toT (.lc [1] (.sq (.v 0)) (.c (.bl true)) (.mt .index (.v 0) (.v 1))))) .nil)
def c_tidied (S : Sub) : List En := []
def r_tidied (S : Sub) : List D → Nat → Out D := evF S (tabOf (c_tidied S)) 2 b_tidied
def N_closed : List Str := ["table", "names", "pairs", "size", "row", "thing", "found", "one", "other", "low", "high", "name"]
def b_closed : MB := (.cons (.set 3 (.p1 .len (.v 0))) (.cons (.set 4 (.p1 .toL (.v 2))) (.cons (.for_ [5] (.rg (.v 3)) (.cons (.ex .bad) .nil)) (.cons (.set 6 (.p1 .rngL (.v 3))) (.cons (.whl turnsW (.p1 .tru (.v 4)) (.cons .bad (.cons (.set 9 (.p2 .min2 (.p2 .idx (.v 6) (.v 7)) (.p2 .idx (.v 6) (.v 8)))) (.cons (.set 10 (.p2 .max2 (.p2 .idx (.v 6) (.v 7)) (.p2 .idx (.v 6) (.v 8)))) (.cons (.if_ (.p2 .ne (.v 9) (.v 10)) (.cons (.set 6 (.lc [11] (.sq (.v 6)) (.c (.bl true)) (.ite (.p2 .eq (.v 11) (.v 10)) (.v 9) (.v 11)))) (.cons (.for_ [5] (.rg (.v 3)) (.cons (.ex .bad) .nil)) .nil)) .nil) .nil))))) (.cons (.ret (.p1 .toT (.v 6))) .nil))))))
def c_closed (S : Sub) : List En := []
def r_closed (S : Sub) : List D → Nat → Out D := evF S (tabOf (c_closed S)) 12 b_closed
def N_together : List Str := ["table", "pairs", "one", "other"]
def b_together : MB := (.cons (.ex (.call "look_table" (.cons (.v 0) .nil))) (.cons (.for_ [2, 3] (.sq (.v 1)) (.cons (.ex (.call "look_things" (.cons (.v 0) (.cons (.lst (.cons (.v 2) (.cons (.v 3) .nil))) .nil)))) .nil)) (.cons (.ret (.call "closed" (.cons (.v 0) (.cons (.p1 .rngL (.p1 .len (.v 0))) (.cons (.v 1) .nil))))) .nil)))
def c_together (S : Sub) : List En := [⟨"look_table", 1, r_look_table S⟩, ⟨"look_things", 2, r_look_things S⟩, ⟨"closed", 3, r_closed S⟩]
def r_together (S : Sub) : List D → Nat → Out D := evF S (tabOf (c_together S)) 4 b_together
def N_met : List Str := ["one", "other", "k"]
def b_met : MB := (.cons (.ret (.call "tidied" (.cons (.lc [2] (.rg (.p1 .len (.v 0))) (.c (.bl true)) (.tup (.cons (.p2 .idx (.v 0) (.v 2)) (.cons (.p2 .idx (.v 1) (.v 2)) .nil)))) .nil))) .nil)
def c_met (S : Sub) : List En := [⟨"tidied", 1, r_tidied S⟩]
def r_met (S : Sub) : List D → Nat → Out D := evF S (tabOf (c_met S)) 3 b_met
def N_both_met : List Str := ["table", "one", "other"]
def b_both_met : MB := (.cons (.ex (.call "look_parting" (.cons (.v 0) (.cons (.v 1) .nil)))) (.cons (.ex (.call "look_parting" (.cons (.v 0) (.cons (.v 2) .nil)))) (.cons (.ret (.call "met" (.cons (.v 1) (.cons (.v 2) .nil)))) .nil)))
def c_both_met (S : Sub) : List En := [⟨"look_parting", 2, r_look_parting S⟩, ⟨"met", 2, r_met S⟩]
def r_both_met (S : Sub) : List D → Nat → Out D := evF S (tabOf (c_both_met S)) 3 b_both_met
def N_both_joined : List Str := ["table", "one", "other", "thing"]
def b_both_joined : MB := (.cons (.ex (.call "look_parting" (.cons (.v 0) (.cons (.v 1) .nil)))) (.cons (.ex (.call "look_parting" (.cons (.v 0) (.cons (.v 2) .nil)))) (.cons (.ret (.call "closed" (.cons (.v 0) (.cons (.v 1) (.cons (.lc [3] (.rg (.p1 .len (.v 0))) (.c (.bl true)) (.tup (.cons (.v 3) (.cons (.p2 .idx (.v 2) (.v 3)) .nil)))) .nil))))) .nil)))
def c_both_joined (S : Sub) : List En := [⟨"look_parting", 2, r_look_parting S⟩, ⟨"closed", 3, r_closed S⟩]
def r_both_joined (S : Sub) : List D → Nat → Out D := evF S (tabOf (c_both_joined S)) 4 b_both_joined
def N_parted_table : List Str := ["table", "parting", "least", "other", "one"]
def b_parted_table : MB := (.cons (.if_ (.p1 .not_ (.p1 .tru (.call "is_kept" (.cons (.v 0) (.cons (.v 1) .nil))))) (.cons (.rais "BadParting") .nil) .nil) (.cons (.set 2 (.p1 .srt .bad)) (.cons (.ret (.p1 .toT (.lc [4] (.sq (.v 2)) (.c (.bl true)) (.p1 .toT (.lc [3] (.sq (.v 2)) (.c (.bl true)) (.mt .index (.v 2) (.p2 .idx (.v 1) (.p2 .idx (.p2 .idx (.v 0) (.v 4)) (.v 3))))))))) .nil)))
def c_parted_table (S : Sub) : List En := [⟨"is_kept", 2, r_is_kept S⟩]
def r_parted_table (S : Sub) : List D → Nat → Out D := evF S (tabOf (c_parted_table S)) 5 b_parted_table
def N_does_lead : List Str := ["one", "other", "leading", "a", "b"]
def b_does_lead : MB := (.cons (.for_ [3] (.rg (.p1 .len (.v 0))) (.cons (.for_ [4] (.rg (.p1 .len (.v 0))) (.cons (.if_ (.p2 .ne (.p2 .idx (.v 2) (.p2 .idx (.p2 .idx (.v 0) (.v 3)) (.v 4))) (.p2 .idx (.p2 .idx (.v 1) (.p2 .idx (.v 2) (.v 3))) (.p2 .idx (.v 2) (.v 4)))) (.cons (.ret (.c (.bl false))) .nil) .nil) .nil)) .nil)) (.cons (.ret (.c (.bl true))) .nil))
def c_does_lead (S : Sub) : List En := []
def r_does_lead (S : Sub) : List D → Nat → Out D := evF S (tabOf (c_does_lead S)) 5 b_does_lead
def N_look_leading : List Str := ["one", "other", "leading", "thing"]
def b_look_leading : MB := (.cons (.ex (.call "look_table" (.cons (.v 0) .nil))) (.cons (.ex (.call "look_table" (.cons (.v 1) .nil))) (.cons (.if_ (.or (.p2 .ne (.p1 .len (.v 2)) (.p1 .len (.v 0))) (.p1 .not_ (.p1 .tru (.p1 .all_ (.lc [3] (.sq (.v 2)) (.c (.bl true)) (.chn .le .lt (.c (.int 0)) (.v 3) (.p1 .len (.v 1)))))))) (.cons (.rais "BadLeading") .nil) .nil) .nil)))
def c_look_leading (S : Sub) : List En := [⟨"look_table", 1, r_look_table S⟩]
def r_look_leading (S : Sub) : List D → Nat → Out D := evF S (tabOf (c_look_leading S)) 4 b_look_leading
def N_is_leading : List Str := ["one", "other", "leading"]
def b_is_leading : MB := (.cons (.ex (.call "look_leading" (.cons (.v 0) (.cons (.v 1) (.cons (.v 2) .nil))))) (.cons (.ret (.call "does_lead" (.cons (.v 0) (.cons (.v 1) (.cons (.v 2) .nil))))) .nil))
def c_is_leading (S : Sub) : List En := [⟨"does_lead", 3, r_does_lead S⟩, ⟨"look_leading", 3, r_look_leading S⟩]
def r_is_leading (S : Sub) : List D → Nat → Out D := evF S (tabOf (c_is_leading S)) 3 b_is_leading
def N_can_go_on : List Str := ["one", "other", "some", "size", "a", "b"]
def b_can_go_on : MB := (.cons (.set 3 (.p1 .len (.v 2))) (.cons (.for_ [4] (.rg (.v 3)) (.cons (.for_ [5] (.rg (.v 3)) (.cons (.if_ (.and (.p2 .lt (.p2 .idx (.p2 .idx (.v 0) (.v 4)) (.v 5)) (.v 3)) (.p2 .ne (.p2 .idx (.v 2) (.p2 .idx (.p2 .idx (.v 0) (.v 4)) (.v 5))) (.p2 .idx (.p2 .idx (.v 1) (.p2 .idx (.v 2) (.v 4))) (.p2 .idx (.v 2) (.v 5))))) (.cons (.ret (.c (.bl false))) .nil) .nil) .nil)) .nil)) (.cons (.ret (.c (.bl true))) .nil)))
def c_can_go_on (S : Sub) : List En := []
def r_can_go_on (S : Sub) : List D → Nat → Out D := evF S (tabOf (c_can_go_on S)) 6 b_can_go_on
def N_leadings : List Str := ["one", "other", "found", "a", "longer", "some", "thing"]
def b_leadings : MB := (.cons (.ex (.call "look_table" (.cons (.v 0) .nil))) (.cons (.ex (.call "look_table" (.cons (.v 1) .nil))) (.cons (.set 2 (.lst (.cons (.tup .nil) .nil))) (.cons (.for_ [3] (.rg (.p1 .len (.v 0))) (.cons (.set 4 (.lst .nil)) (.cons (.for_ [5] (.sq (.v 2)) (.cons (.ex .bad) .nil)) (.cons (.set 2 (.v 4)) .nil)))) (.cons (.ret (.v 2)) .nil)))))
def c_leadings (S : Sub) : List En := [⟨"look_table", 1, r_look_table S⟩, ⟨"can_go_on", 3, r_can_go_on S⟩]
def r_leadings (S : Sub) : List D → Nat → Out D := evF S (tabOf (c_leadings S)) 7 b_leadings
def N_turns : List Str := ["one", "other", "found", "some"]
def b_turns : MB := (.cons (.set 2 (.call "leadings" (.cons (.v 0) (.cons (.v 1) .nil)))) (.cons (.ret (.lc [3] (.sq (.v 2)) (.and (.p2 .eq (.p1 .len (.v 0)) (.p1 .len (.v 1))) (.p2 .eq (.p1 .len .bad) (.p1 .len (.v 3)))) (.v 3))) .nil))
def c_turns (S : Sub) : List En := [⟨"leadings", 2, r_leadings S⟩]
def r_turns (S : Sub) : List D → Nat → Out D := evF S (tabOf (c_turns S)) 4 b_turns
def N_image : List Str := ["one", "other", "leading"]
def b_image : MB := (.cons (.if_ (.p1 .not_ (.p1 .tru (.call "is_leading" (.cons (.v 0) (.cons (.v 1) (.cons (.v 2) .nil)))))) (.cons (.rais "BadLeading") .nil) .nil) (.cons (.ret (.p1 .srt .bad)) .nil))
def c_image (S : Sub) : List En := [⟨"is_leading", 3, r_is_leading S⟩]
def r_image (S : Sub) : List D → Nat → Out D := evF S (tabOf (c_image S)) 3 b_image
def N_parting_of : List Str := ["one", "other", "leading"]
def b_parting_of : MB := (.cons (.if_ (.p1 .not_ (.p1 .tru (.call "is_leading" (.cons (.v 0) (.cons (.v 1) (.cons (.v 2) .nil)))))) (.cons (.rais "BadLeading") .nil) .nil) (.cons (.ret (.call "tidied" (.cons (.p1 .toL (.v 2)) .nil))) .nil))
def c_parting_of (S : Sub) : List En := [⟨"tidied", 1, r_tidied S⟩, ⟨"is_leading", 3, r_is_leading S⟩]
def r_parting_of (S : Sub) : List D → Nat → Out D := evF S (tabOf (c_parting_of S)) 3 b_parting_of
def N_grown : List Str := ["table", "some", "found", "k", "more", "other", "fresh", "thing"]
def b_grown : MB := (.cons (.set 2 (.p1 .srt .bad)) (.cons (.set 3 (.c (.int 0))) (.cons (.whl turnsW (.p2 .lt (.v 3) (.p1 .len (.v 2))) (.cons (.set 4 (.p2 .add (.lc [5] (.sq (.v 2)) (.c (.bl true)) (.p2 .idx (.p2 .idx (.v 0) (.p2 .idx (.v 2) (.v 3))) (.v 5))) (.lc [5] (.sq (.v 2)) (.c (.bl true)) (.p2 .idx (.p2 .idx (.v 0) (.v 5)) (.p2 .idx (.v 2) (.v 3)))))) (.cons (.set 6 (.p1 .srt .bad)) (.cons (.if_ (.p1 .tru (.v 6)) (.cons (.set 2 (.p1 .srt (.p2 .add (.v 2) (.v 6)))) (.cons (.set 3 (.c (.int 0))) .nil)) (.cons (.set 3 (.p2 .add (.v 3) (.c (.int 1)))) .nil)) .nil)))) (.cons (.ret (.v 2)) .nil))))
def c_grown (S : Sub) : List En := []
def r_grown (S : Sub) : List D → Nat → Out D := evF S (tabOf (c_grown S)) 8 b_grown
def N_made_of : List Str := ["table", "some"]
def b_made_of : MB := (.cons (.ex (.call "look_things" (.cons (.v 0) (.cons (.v 1) .nil)))) (.cons (.ret (.call "grown" (.cons (.v 0) (.cons (.v 1) .nil)))) .nil))
def c_made_of (S : Sub) : List En := [⟨"look_things", 2, r_look_things S⟩, ⟨"grown", 2, r_grown S⟩]
def r_made_of (S : Sub) : List D → Nat → Out D := evF S (tabOf (c_made_of S)) 2 b_made_of
def N_is_part : List Str := ["table", "some"]
def b_is_part : MB := (.cons (.ex (.call "look_things" (.cons (.v 0) (.cons (.v 1) .nil)))) (.cons (.ret (.and (.p2 .gt (.p1 .len (.v 1)) (.c (.int 0))) (.p2 .eq (.call "grown" (.cons (.v 0) (.cons (.v 1) .nil))) (.p1 .srt .bad)))) .nil))
def c_is_part (S : Sub) : List En := [⟨"look_things", 2, r_look_things S⟩, ⟨"grown", 2, r_grown S⟩]
def r_is_part (S : Sub) : List D → Nat → Out D := evF S (tabOf (c_is_part S)) 2 b_is_part
def N_part_table : List Str := ["table", "some", "row", "other", "one"]
def b_part_table : MB := (.cons (.if_ (.p1 .not_ (.p1 .tru (.call "is_part" (.cons (.v 0) (.cons (.v 1) .nil))))) (.cons (.rais "BadThing") .nil) .nil) (.cons (.set 2 (.p1 .srt .bad)) (.cons (.ret (.p1 .toT (.lc [4] (.sq (.v 2)) (.c (.bl true)) (.p1 .toT (.lc [3] (.sq (.v 2)) (.c (.bl true)) (.mt .index (.v 2) (.p2 .idx (.p2 .idx (.v 0) (.v 4)) (.v 3)))))))) .nil)))
def c_part_table (S : Sub) : List En := [⟨"is_part", 2, r_is_part S⟩]
def r_part_table (S : Sub) : List D → Nat → Out D := evF S (tabOf (c_part_table S)) 5 b_part_table
def N_power_row : List Str := ["table", "thing", "found", "here"]
def b_power_row : MB := (.cons (.ex (.call "look_things" (.cons (.v 0) (.cons (.lst (.cons (.v 1) .nil)) .nil)))) (.cons (.set 2 (.lst (.cons (.v 1) .nil))) (.cons (.set 3 (.p2 .idx (.p2 .idx (.v 0) (.v 1)) (.v 1))) (.cons (.whl turnsW (.p2 .nin (.v 3) (.v 2)) (.cons (.ex .bad) (.cons (.set 3 (.p2 .idx (.p2 .idx (.v 0) (.v 3)) (.v 1))) .nil))) (.cons (.ret (.tup (.cons (.v 2) (.cons (.mt .index (.v 2) (.v 3)) .nil)))) .nil)))))
def c_power_row (S : Sub) : List En := [⟨"look_things", 2, r_look_things S⟩]
def r_power_row (S : Sub) : List D → Nat → Out D := evF S (tabOf (c_power_row S)) 4 b_power_row
def N_is_term : List Str := ["term", "deep", "one"]
def b_is_term : MB := (.cons (.if_ (.p1 .tru (.p1 .isStr (.v 0))) (.cons (.ret (.p2 .in_ (.v 0) (.p1 .toL (.c (.str "xyz"))))) .nil) .nil) (.cons (.ret (.and (.p1 .isTup (.v 0)) (.and (.p2 .eq (.p1 .len (.v 0)) (.c (.int 2))) (.and (.p2 .gt (.v 1) (.c (.int 0))) (.p1 .all_ (.lc [2] (.sq (.v 0)) (.c (.bl true)) (.call "is_term" (.cons (.v 2) (.cons (.p2 .sub (.v 1) (.c (.int 1))) .nil))))))))) .nil))
def c_is_term (S : Sub) : List En := []
def r_is_term (S : Sub) : List D → Nat → Out D := selfRun S "is_term" 2 3 b_is_term (c_is_term S) 6
def N_look_saying : List Str := ["saying", "term"]
def b_look_saying : MB := (.cons (.if_ (.or (.p2 .ne (.p1 .len (.v 0)) (.c (.int 2))) (.p1 .not_ (.p1 .tru (.p1 .all_ (.lc [1] (.sq (.v 0)) (.c (.bl true)) (.call "is_term" (.cons (.v 1) (.cons (.c (.int 3)) .nil)))))))) (.cons (.rais "BadSaying") .nil) .nil) .nil)
def c_look_saying (S : Sub) : List En := [⟨"is_term", 2, r_is_term S⟩]
def r_look_saying (S : Sub) : List D → Nat → Out D := evF S (tabOf (c_look_saying S)) 2 b_look_saying
def N_letters_of : List Str := ["term"]
def b_letters_of : MB := (.cons (.if_ (.p1 .tru (.p1 .isStr (.v 0))) (.cons (.ret (.lst (.cons (.v 0) .nil))) .nil) .nil) (.cons (.ret (.p1 .srt .bad)) .nil))
def c_letters_of (S : Sub) : List En := []
def r_letters_of (S : Sub) : List D → Nat → Out D := selfRun S "letters_of" 1 1 b_letters_of (c_letters_of S) 6
def N_worth : List Str := ["table", "term", "things"]
def b_worth : MB := (.cons (.if_ (.p1 .tru (.p1 .isStr (.v 1))) (.cons (.ret (.p2 .idx (.v 2) (.v 1))) .nil) .nil) (.cons (.ret (.p2 .idx (.p2 .idx (.v 0) (.call "worth" (.cons (.v 0) (.cons (.p2 .idx (.v 1) (.c (.int 0))) (.cons (.v 2) .nil))))) (.call "worth" (.cons (.v 0) (.cons (.p2 .idx (.v 1) (.c (.int 1))) (.cons (.v 2) .nil)))))) .nil))
def c_worth (S : Sub) : List En := []
def r_worth (S : Sub) : List D → Nat → Out D := selfRun S "worth" 3 3 b_worth (c_worth S) 6
def N_first_against : List Str := ["table", "saying", "letters", "rows", "letter", "longer", "row", "thing", "things"]
def b_first_against : MB := (.cons (.ex (.call "look_table" (.cons (.v 0) .nil))) (.cons (.ex (.call "look_saying" (.cons (.v 1) .nil))) (.cons (.set 2 (.p1 .srt .bad)) (.cons (.set 3 (.lst (.cons (.lst .nil) .nil))) (.cons (.for_ [4] (.sq (.v 2)) (.cons (.set 5 (.lst .nil)) (.cons (.for_ [6] (.sq (.v 3)) (.cons (.ex .bad) .nil)) (.cons (.set 3 (.v 5)) .nil)))) (.cons (.for_ [6] (.sq (.v 3)) (.cons (.set 8 .bad) (.cons (.if_ (.p2 .ne (.call "worth" (.cons (.v 0) (.cons (.p2 .idx (.v 1) (.c (.int 0))) (.cons (.v 8) .nil)))) (.call "worth" (.cons (.v 0) (.cons (.p2 .idx (.v 1) (.c (.int 1))) (.cons (.v 8) .nil))))) (.cons (.ret (.v 6)) .nil) .nil) .nil))) (.cons (.ret (.c .non)) .nil)))))))
def c_first_against (S : Sub) : List En := [⟨"look_table", 1, r_look_table S⟩, ⟨"look_saying", 1, r_look_saying S⟩, ⟨"letters_of", 1, r_letters_of S⟩, ⟨"worth", 3, r_worth S⟩]
def r_first_against (S : Sub) : List D → Nat → Out D := evF S (tabOf (c_first_against S)) 9 b_first_against
def N_holds : List Str := ["table", "saying"]
def b_holds : MB := (.cons (.ret (.p1 .isN (.call "first_against" (.cons (.v 0) (.cons (.v 1) .nil))))) .nil)
def c_holds (S : Sub) : List En := [⟨"first_against", 2, r_first_against S⟩]
def r_holds (S : Sub) : List D → Nat → Out D := evF S (tabOf (c_holds S)) 2 b_holds
def N_held : List Str := ["table", "sayings", "saying", "k"]
def b_held : MB := (.cons (.ex (.call "look_table" (.cons (.v 0) .nil))) (.cons (.for_ [2] (.sq (.v 1)) (.cons (.ex (.call "look_saying" (.cons (.v 2) .nil))) .nil)) (.cons (.ret (.lc [3] (.rg (.p1 .len (.v 1))) (.p1 .tru (.call "holds" (.cons (.v 0) (.cons (.p2 .idx (.v 1) (.v 3)) .nil)))) (.v 3))) .nil)))
def c_held (S : Sub) : List En := [⟨"look_table", 1, r_look_table S⟩, ⟨"look_saying", 1, r_look_saying S⟩, ⟨"holds", 2, r_holds S⟩]
def r_held (S : Sub) : List D → Nat → Out D := evF S (tabOf (c_held S)) 4 b_held
def N_law_cell : List Str := ["script", "k"]
def b_law_cell : MB := (.cons (.if_ (.p1 .tru (.v 0)) (.cons (.ret (.p2 .idx (.v 0) (.p2 .mod (.v 1) (.p1 .len (.v 0))))) .nil) .nil) (.cons (.ret (.c (.int 0))) .nil))
def c_law_cell (S : Sub) : List En := []
def r_law_cell (S : Sub) : List D → Nat → Out D := evF S (tabOf (c_law_cell S)) 2 b_law_cell
def N_law_mix : List Str := ["script", "k", "number"]
def b_law_mix : MB := (.cons (.set 2 (.p2 .mod (.p2 .add (.call "_law_cell" (.cons (.v 0) (.cons (.v 1) .nil))) (.p2 .mul (.c (.int 104729)) (.p2 .add (.v 1) (.c (.int 1))))) (.c (.int 4294967291)))) (.cons (.set 2 (.p2 .mod (.p2 .pow (.v 2) (.c (.int 5))) (.c (.int 4294967279)))) (.cons (.ret (.p2 .mod (.p2 .add (.p2 .mul (.p2 .fdiv (.v 2) (.c (.int 64))) (.c (.int 69621))) (.v 2)) (.c (.int 4294967231)))) .nil)))
def c_law_mix (S : Sub) : List En := [⟨"_law_cell", 2, r_law_cell S⟩]
def r_law_mix (S : Sub) : List D → Nat → Out D := evF S (tabOf (c_law_mix S)) 3 b_law_mix
def N_law_draw : List Str := ["script", "town", "many"]
def b_law_draw : MB := (.cons (.tick 1) (.cons (.ret (.p2 .mod (.p2 .fdiv (.call "_law_mix" (.cons (.v 0) (.cons (.p1 .len (.v 1)) .nil))) (.c (.int 8))) (.v 2))) .nil))
def c_law_draw (S : Sub) : List En := [⟨"_law_mix", 2, r_law_mix S⟩]
def r_law_draw (S : Sub) : List D → Nat → Out D := evF S (tabOf (c_law_draw S)) 3 b_law_draw
def N_law_pick : List Str := ["script", "town", "some"]
def b_law_pick : MB := (.cons (.ret (.p2 .idx (.v 2) (.call "_law_draw" (.cons (.v 0) (.cons (.v 1) (.cons (.p1 .len (.v 2)) .nil)))))) .nil)
def c_law_pick (S : Sub) : List En := [⟨"_law_draw", 3, r_law_draw S⟩]
def r_law_pick (S : Sub) : List D → Nat → Out D := evF S (tabOf (c_law_pick S)) 3 b_law_pick
def N_law_refusal : List Str := ["caught", "kinds", "words"]
def b_law_refusal : MB := (.cons (.if_ (.p1 .isN (.v 0)) (.cons (.ret (.tup (.cons (.c (.str "ok")) .nil))) .nil) .nil) (.cons (.set 1 (.lst (.cons (.p1 (.isExc "BadTable") (.v 0)) (.cons (.p1 (.isExc "BadThing") (.v 0)) (.cons (.p1 (.isExc "BadParting") (.v 0)) .nil))))) (.cons (.set 1 (.p2 .add (.v 1) (.lst (.cons (.p1 (.isExc "BadSaying") (.v 0)) (.cons (.p1 (.isExc "BadLeading") (.v 0)) (.cons (.p1 (.isExc "BadNumber") (.v 0)) .nil)))))) (.cons (.set 1 (.p2 .add (.v 1) (.lst (.cons (.p1 (.isExc "TooGreat") (.v 0)) (.cons (.p1 (.isExc "BadText") (.v 0)) .nil))))) (.cons (.if_ (.or (.p2 .ne (.mt .count (.v 1) (.c (.bl true))) (.c (.int 1))) (.p1 .not_ (.p1 .tru (.p1 (.isExc "ValueError") (.v 0))))) (.cons (.ret (.tup (.cons (.c (.str "wrong")) .nil))) .nil) .nil) (.cons (.set 2 (.lst (.cons (.c (.str "table")) (.cons (.c (.str "thing")) (.cons (.c (.str "parting")) (.cons (.c (.str "saying")) (.cons (.c (.str "leading")) (.cons (.c (.str "number")) (.cons (.c (.str "great")) (.cons (.c (.str "text")) .nil)))))))))) (.cons (.ret (.tup (.cons (.c (.str "refused")) (.cons (.p2 .idx (.v 2) (.mt .index (.v 1) (.c (.bl true)))) .nil)))) .nil)))))))
def c_law_refusal (S : Sub) : List En := []
def r_law_refusal (S : Sub) : List D → Nat → Out D := evF S (tabOf (c_law_refusal S)) 3 b_law_refusal
def N_law_one_b : List Str := ["kind", "some", "table", "leading", "saying", "great"]
def b_law_one_b : MB := (.cons (.set 2 (.p2 .idx (.v 1) (.c (.int 0)))) (.cons (.set 3 (.p2 .idx (.v 1) (.c (.int 3)))) (.cons (.set 4 (.p2 .idx (.v 1) (.c (.int 4)))) (.cons (.set 5 (.p2 .idx (.v 1) (.c (.int 5)))) (.cons (.if_ (.p2 .eq (.v 0) (.c (.int 13))) (.cons (.ret (.call "is_leading" (.cons (.v 2) (.cons (.v 2) (.cons (.v 3) .nil))))) .nil) .nil) (.cons (.if_ (.p2 .eq (.v 0) (.c (.int 14))) (.cons (.ret (.call "leadings" (.cons (.v 5) (.cons (.v 2) .nil)))) .nil) .nil) (.cons (.if_ (.p2 .eq (.v 0) (.c (.int 15))) (.cons (.ret (.call "turns" (.cons (.v 2) (.cons (.v 5) .nil)))) .nil) .nil) (.cons (.if_ (.p2 .eq (.v 0) (.c (.int 16))) (.cons (.ret (.call "image" (.cons (.v 5) (.cons (.v 2) (.cons (.v 3) .nil))))) .nil) .nil) (.cons (.if_ (.p2 .eq (.v 0) (.c (.int 17))) (.cons (.ret (.call "parting_of" (.cons (.v 2) (.cons (.v 5) (.cons (.v 3) .nil))))) .nil) .nil) (.cons (.if_ (.p2 .eq (.v 0) (.c (.int 18))) (.cons (.ret (.call "holds" (.cons (.v 2) (.cons (.v 4) .nil)))) .nil) .nil) (.cons (.if_ (.p2 .eq (.v 0) (.c (.int 19))) (.cons (.ret (.call "first_against" (.cons (.v 2) (.cons (.v 4) .nil)))) .nil) .nil) (.cons (.if_ (.p2 .eq (.v 0) (.c (.int 20))) (.cons (.ret (.call "held" (.cons (.v 2) (.cons (.lst (.cons (.v 4) .nil)) .nil)))) .nil) .nil) (.cons (.ret (.c .non)) .nil)))))))))))))
def c_law_one_b (S : Sub) : List En := [⟨"is_leading", 3, r_is_leading S⟩, ⟨"leadings", 2, r_leadings S⟩, ⟨"turns", 2, r_turns S⟩, ⟨"image", 3, r_image S⟩, ⟨"parting_of", 3, r_parting_of S⟩, ⟨"first_against", 2, r_first_against S⟩, ⟨"holds", 2, r_holds S⟩, ⟨"held", 2, r_held S⟩]
def r_law_one_b (S : Sub) : List D → Nat → Out D := evF S (tabOf (c_law_one_b S)) 6 b_law_one_b
def N_law_one : List Str := ["kind", "some", "table", "thing", "parting", "great"]
def b_law_one : MB := (.cons (.set 2 (.p2 .idx (.v 1) (.c (.int 0)))) (.cons (.set 3 (.p2 .idx (.v 1) (.c (.int 1)))) (.cons (.set 4 (.p2 .idx (.v 1) (.c (.int 2)))) (.cons (.set 5 (.p2 .idx (.v 1) (.c (.int 5)))) (.cons (.if_ (.p2 .eq (.v 0) (.c (.int 0))) (.cons (.ret (.call "of_two" (.cons (.v 2) (.cons (.v 3) (.cons (.v 3) .nil))))) .nil) .nil) (.cons (.if_ (.p2 .eq (.v 0) (.c (.int 1))) (.cons (.ret (.call "renamed" (.cons (.v 2) (.cons (.lst (.cons (.v 3) .nil)) .nil)))) .nil) .nil) (.cons (.if_ (.p2 .eq (.v 0) (.c (.int 2))) (.cons (.ret (.call "times" (.cons (.v 2) (.cons (.v 2) .nil)))) .nil) .nil) (.cons (.if_ (.p2 .eq (.v 0) (.c (.int 3))) (.cons (.ret (.call "times" (.cons (.v 5) (.cons (.v 2) .nil)))) .nil) .nil) (.cons (.if_ (.p2 .eq (.v 0) (.c (.int 4))) (.cons (.ret (.call "made_of" (.cons (.v 2) (.cons (.lst (.cons (.v 3) .nil)) .nil)))) .nil) .nil) (.cons (.if_ (.p2 .eq (.v 0) (.c (.int 5))) (.cons (.ret (.call "is_part" (.cons (.v 2) (.cons (.lst (.cons (.v 3) .nil)) .nil)))) .nil) .nil) (.cons (.if_ (.p2 .eq (.v 0) (.c (.int 6))) (.cons (.ret (.call "part_table" (.cons (.v 2) (.cons (.lst (.cons (.v 3) .nil)) .nil)))) .nil) .nil) (.cons (.if_ (.p2 .eq (.v 0) (.c (.int 7))) (.cons (.ret (.call "power_row" (.cons (.v 2) (.cons (.v 3) .nil)))) .nil) .nil) (.cons (.if_ (.p2 .eq (.v 0) (.c (.int 8))) (.cons (.ret (.call "is_kept" (.cons (.v 2) (.cons (.v 4) .nil)))) .nil) .nil) (.cons (.if_ (.p2 .eq (.v 0) (.c (.int 9))) (.cons (.ret (.call "together" (.cons (.v 2) (.cons (.lst (.cons (.tup (.cons (.v 3) (.cons (.c (.int 0)) .nil))) .nil)) .nil)))) .nil) .nil) (.cons (.if_ (.p2 .eq (.v 0) (.c (.int 10))) (.cons (.ret (.call "both_met" (.cons (.v 2) (.cons (.v 4) (.cons (.v 4) .nil))))) .nil) .nil) (.cons (.if_ (.p2 .eq (.v 0) (.c (.int 11))) (.cons (.ret (.call "both_joined" (.cons (.v 2) (.cons (.v 4) (.cons (.v 4) .nil))))) .nil) .nil) (.cons (.if_ (.p2 .eq (.v 0) (.c (.int 12))) (.cons (.ret (.call "parted_table" (.cons (.v 2) (.cons (.v 4) .nil)))) .nil) .nil) (.cons (.ret (.call "_law_one_b" (.cons (.v 0) (.cons (.v 1) .nil)))) .nil))))))))))))))))))
def c_law_one (S : Sub) : List En := [⟨"of_two", 3, r_of_two S⟩, ⟨"renamed", 2, r_renamed S⟩, ⟨"times", 2, r_times S⟩, ⟨"is_kept", 2, r_is_kept S⟩, ⟨"together", 2, r_together S⟩, ⟨"both_met", 3, r_both_met S⟩, ⟨"both_joined", 3, r_both_joined S⟩, ⟨"parted_table", 2, r_parted_table S⟩, ⟨"made_of", 2, r_made_of S⟩, ⟨"is_part", 2, r_is_part S⟩, ⟨"part_table", 2, r_part_table S⟩, ⟨"power_row", 2, r_power_row S⟩, ⟨"_law_one_b", 2, r_law_one_b S⟩]
def r_law_one (S : Sub) : List D → Nat → Out D := evF S (tabOf (c_law_one S)) 6 b_law_one
def N_law_told : List Str := ["kind", "some", "caught", "found", "e"]
def b_law_told : MB := (.cons (.set 2 (.c .non)) (.cons (.set 3 (.c .non)) (.cons (.try_ (.cons (.set 3 (.call "_law_one" (.cons (.v 0) (.cons (.v 1) .nil)))) .nil) 2 4) (.cons (.ret (.ite (.p1 .isN (.v 2)) (.tup (.cons (.c (.str "found")) (.cons (.v 3) .nil))) (.call "_law_refusal" (.cons (.v 2) .nil)))) .nil))))
def c_law_told (S : Sub) : List En := [⟨"_law_refusal", 1, r_law_refusal S⟩, ⟨"_law_one", 2, r_law_one S⟩]
def r_law_told (S : Sub) : List D → Nat → Out D := evF S (tabOf (c_law_told S)) 5 b_law_told
def N_law : List Str := ["script", "town", "some", "table", "thing", "parting", "leading", "deep", "saying", "great", "kind"]
def b_law_0 : MS := (.set 2 (.lst (.cons (.tup .nil) (.cons (.tup (.cons (.tup (.cons (.c (.int 1)) .nil)) .nil)) (.cons (.tup (.cons (.tup (.cons (.c (.int 0)) (.cons (.c (.int 0)) .nil))) .nil)) (.cons (.tup (.cons (.tup (.cons (.c (.int 0)) (.cons (.c (.int 0)) .nil))) (.cons (.tup (.cons (.c (.int 0)) .nil)) .nil))) (.cons (.tup (.cons (.tup (.cons (.c (.int 0)) (.cons (.c (.int 2)) .nil))) (.cons (.tup (.cons (.c (.int 0)) (.cons (.c (.int 0)) .nil))) .nil))) (.cons (.p2 .mul (.tup (.cons (.p2 .mul (.tup (.cons (.c (.int 0)) .nil)) (.c (.int 7))) .nil)) (.c (.int 7))) (.cons (.tup (.cons (.tup (.cons (.p1 .neg (.c (.int 1))) .nil)) .nil)) .nil)))))))))
def b_law_1 : MS := (.set 3 (.call "_law_pick" (.cons (.v 0) (.cons (.v 1) (.cons (.v 2) .nil)))))
def b_law_2 : MS := (.set 4 (.call "_law_pick" (.cons (.v 0) (.cons (.v 1) (.cons (.lst (.cons (.p1 .neg (.c (.int 1))) (.cons (.c (.int 3)) .nil))) .nil)))))
def b_law_3 : MS := (.set 5 (.call "_law_pick" (.cons (.v 0) (.cons (.v 1) (.cons (.lst (.cons (.tup .nil) (.cons (.tup (.cons (.c (.int 0)) (.cons (.c (.int 0)) .nil))) (.cons (.tup (.cons (.c (.int 1)) (.cons (.c (.int 1)) (.cons (.c (.int 1)) .nil)))) (.cons (.tup (.cons (.c (.int 0)) (.cons (.c (.int 2)) (.cons (.c (.int 2)) .nil)))) (.cons (.tup (.cons (.c (.int 0)) (.cons (.c (.int 0)) (.cons (.c (.int 3)) .nil)))) (.cons (.tup (.cons (.c (.int 0)) (.cons (.c (.int 0)) (.cons (.c (.int 0)) (.cons (.c (.int 0)) .nil))))) .nil))))))) .nil)))))
def b_law_4 : MS := (.set 6 (.call "_law_pick" (.cons (.v 0) (.cons (.v 1) (.cons (.lst (.cons (.tup .nil) (.cons (.tup (.cons (.c (.int 0)) (.cons (.c (.int 0)) .nil))) (.cons (.tup (.cons (.c (.int 0)) (.cons (.c (.int 0)) (.cons (.c (.int 3)) .nil)))) (.cons (.tup (.cons (.c (.int 0)) (.cons (.c (.int 0)) (.cons (.p1 .neg (.c (.int 1))) .nil)))) (.cons (.tup (.cons (.c (.int 0)) (.cons (.c (.int 0)) (.cons (.c (.int 0)) (.cons (.c (.int 0)) .nil))))) .nil)))))) .nil)))))
def b_law_5 : MS := (.set 7 (.tup (.cons (.tup (.cons (.tup (.cons (.tup (.cons (.c (.str "x")) (.cons (.c (.str "x")) .nil))) (.cons (.c (.str "x")) .nil))) (.cons (.c (.str "x")) .nil))) (.cons (.c (.str "x")) .nil))))
def b_law_6 : MS := (.set 8 (.call "_law_pick" (.cons (.v 0) (.cons (.v 1) (.cons (.lst (.cons (.tup (.cons (.c (.str "x")) (.cons (.c (.str "w")) .nil))) (.cons (.tup (.cons (.c (.str "x")) .nil)) (.cons (.tup (.cons (.c (.str "x")) (.cons (.tup (.cons (.c (.str "x")) .nil)) .nil))) (.cons (.tup (.cons (.c (.str "")) (.cons (.c (.str "x")) .nil))) (.cons (.tup (.cons (.c (.str "x")) (.cons (.v 7) .nil))) .nil)))))) .nil)))))
def b_law_7 : MS := (.set 9 (.p2 .mul (.tup (.cons (.tup (.cons (.c (.int 0)) (.cons (.c (.int 0)) (.cons (.c (.int 0)) .nil)))) .nil)) (.c (.int 3))))
def b_law_8 : MS := (.set 2 (.lst (.cons (.v 3) (.cons (.v 4) (.cons (.v 5) (.cons (.v 6) (.cons (.v 8) (.cons (.v 9) .nil))))))))
def b_law_9 : MS := (.if_ (.p2 .ne (.lc [10] (.rg (.c (.int 21))) (.c (.bl true)) (.call "_law_told" (.cons (.v 10) (.cons (.v 2) .nil)))) (.p2 .mul (.lst (.cons (.tup (.cons (.c (.str "refused")) (.cons (.c (.str "table")) .nil))) .nil)) (.c (.int 21)))) (.cons (.ret (.c (.bl false))) .nil) .nil)
def b_law_10 : MS := (.set 2 (.lst (.cons (.v 9) (.cons (.v 4) (.cons (.v 5) (.cons (.v 6) (.cons (.v 8) (.cons (.v 9) .nil))))))))
def b_law_11 : MS := (.if_ (.p2 .ne (.lc [10] (.sq (.tup (.cons (.c (.int 0)) (.cons (.c (.int 1)) (.cons (.c (.int 4)) (.cons (.c (.int 5)) (.cons (.c (.int 6)) (.cons (.c (.int 7)) (.cons (.c (.int 9)) .nil))))))))) (.c (.bl true)) (.call "_law_told" (.cons (.v 10) (.cons (.v 2) .nil)))) (.p2 .mul (.lst (.cons (.tup (.cons (.c (.str "refused")) (.cons (.c (.str "thing")) .nil))) .nil)) (.c (.int 7)))) (.cons (.ret (.c (.bl false))) .nil) .nil)
def b_law_12 : MS := (.if_ (.p2 .ne (.lc [10] (.sq (.tup (.cons (.c (.int 2)) (.cons (.c (.int 3)) .nil)))) (.c (.bl true)) (.call "_law_told" (.cons (.v 10) (.cons (.v 2) .nil)))) (.p2 .mul (.lst (.cons (.tup (.cons (.c (.str "refused")) (.cons (.c (.str "great")) .nil))) .nil)) (.c (.int 2)))) (.cons (.ret (.c (.bl false))) .nil) .nil)
def b_law_13 : MS := (.if_ (.p2 .ne (.lc [10] (.sq (.tup (.cons (.c (.int 8)) (.cons (.c (.int 10)) (.cons (.c (.int 11)) (.cons (.c (.int 12)) .nil)))))) (.c (.bl true)) (.call "_law_told" (.cons (.v 10) (.cons (.v 2) .nil)))) (.p2 .mul (.lst (.cons (.tup (.cons (.c (.str "refused")) (.cons (.c (.str "parting")) .nil))) .nil)) (.c (.int 4)))) (.cons (.ret (.c (.bl false))) .nil) .nil)
def b_law_14 : MS := (.if_ (.p2 .ne (.lc [10] (.sq (.tup (.cons (.c (.int 13)) (.cons (.c (.int 16)) (.cons (.c (.int 17)) .nil))))) (.c (.bl true)) (.call "_law_told" (.cons (.v 10) (.cons (.v 2) .nil)))) (.p2 .mul (.lst (.cons (.tup (.cons (.c (.str "refused")) (.cons (.c (.str "leading")) .nil))) .nil)) (.c (.int 3)))) (.cons (.ret (.c (.bl false))) .nil) .nil)
def b_law_15 : MS := (.ret (.p2 .eq (.lc [10] (.sq (.tup (.cons (.c (.int 18)) (.cons (.c (.int 19)) (.cons (.c (.int 20)) .nil))))) (.c (.bl true)) (.call "_law_told" (.cons (.v 10) (.cons (.v 2) .nil)))) (.p2 .mul (.lst (.cons (.tup (.cons (.c (.str "refused")) (.cons (.c (.str "saying")) .nil))) .nil)) (.c (.int 3)))))
def b_law : MB := (.cons b_law_0 (.cons b_law_1 (.cons b_law_2 (.cons b_law_3 (.cons b_law_4 (.cons b_law_5 (.cons b_law_6 (.cons b_law_7 (.cons b_law_8 (.cons b_law_9 (.cons b_law_10 (.cons b_law_11 (.cons b_law_12 (.cons b_law_13 (.cons b_law_14 (.cons b_law_15 .nil))))))))))))))))
def c_law (S : Sub) : List En := [⟨"_law_pick", 3, r_law_pick S⟩, ⟨"_law_told", 2, r_law_told S⟩]
end Ko

namespace Ko
open PySem (Str)
open Mv
section
variable (S : Sub) (n : Nat) (i j : Int) (xs ys : List D) (x y : Str) (d e : D) (b : Bool)
theorem s2_add : sem2 .add n (.int i) (.int j) = some (.int (i + j)) := rfl
theorem s2_addS : sem2 .add n (.str x) (.str y) = if x.length + y.length ≤ line then some (.str (x ++ y)) else none := rfl
theorem s2_addL : sem2 .add n (.lst xs) (.lst ys) = if xs.length + ys.length ≤ line then some (.lst (xs ++ ys)) else none := rfl
theorem s2_addT : sem2 .add n (.tup xs) (.tup ys) = if xs.length + ys.length ≤ line then some (.tup (xs ++ ys)) else none := rfl
theorem s2_sub : sem2 .sub n (.int i) (.int j) = some (.int (i - j)) := rfl
theorem s2_mul : sem2 .mul n (.int i) (.int j) = if (-(2 ^ 64) < i ∧ i < 2 ^ 64) ∨ (-(2 ^ 64) < j ∧ j < 2 ^ 64) then some (.int (i * j)) else none := rfl
theorem s2_mod : sem2 .mod n (.int i) (.int j) = if 0 < j then some (.int (i % j)) else none := rfl
theorem s2_fdiv : sem2 .fdiv n (.int i) (.int j) = if 0 < j ∧ j < 1073741824 then some (.int (i / j)) else none := rfl
theorem s2_pow : sem2 .pow n (.int i) (.int j) = if 0 ≤ j ∧ j ≤ 1000000 ∧ i.natAbs < 2 ^ 64 then some (.int (i ^ j.toNat)) else none := rfl
theorem s2_eq : sem2 .eq n d e = (isEq d e).map D.bl := by cases d <;> cases e <;> rfl
theorem s2_ne : sem2 .ne n d e = (isEq d e).map fun b => D.bl (!b) := by cases d <;> cases e <;> rfl
theorem s2_lt : sem2 .lt n (.int i) (.int j) = some (.bl (decide (i < j))) := rfl
theorem s2_le : sem2 .le n (.int i) (.int j) = some (.bl (decide (i ≤ j))) := rfl
theorem s2_gt : sem2 .gt n (.int i) (.int j) = some (.bl (decide (j < i))) := rfl
theorem s2_ge : sem2 .ge n (.int i) (.int j) = some (.bl (decide (j ≤ i))) := rfl
theorem s2_inL : sem2 .in_ n d (.lst ys) = if shp deep d && shpAll deep ys then some (.bl (ys.any fun y => eqv y d)) else none := by cases d <;> rfl
theorem s2_ninL : sem2 .nin n d (.lst ys) = if shp deep d && shpAll deep ys then some (.bl (!ys.any fun y => eqv y d)) else none := by cases d <;> rfl
theorem s2_ixL : sem2 .idx n (.lst xs) (.int i) = (ixN xs.length i).bind fun j => xs[j]? := rfl
theorem s2_ixT : sem2 .idx n (.tup xs) (.int i) = (ixN xs.length i).bind fun j => xs[j]? := rfl
theorem s2_min : sem2 .min2 n (.int i) (.int j) = some (.int (if j < i then j else i)) := rfl
theorem s2_max : sem2 .max2 n (.int i) (.int j) = some (.int (if j > i then j else i)) := rfl
theorem s1_lenL : sem1 S .len n (.lst xs) = some (.int xs.length) := rfl
theorem s1_lenT : sem1 S .len n (.tup xs) = some (.int xs.length) := rfl
theorem s1_lenW : sem1 S .len n .town = some (.int n) := rfl
theorem s1_all : sem1 S .all_ n (.lst xs) = (bools xs).map fun bs => .bl (bs.all id) := rfl
theorem s1_tru : sem1 S .tru n d = (truth d).map D.bl := by cases d <;> rfl
theorem s1_not : sem1 S .not_ n (.bl b) = some (.bl (!b)) := rfl
end
theorem evF_eq (S : Sub) (T : Tab) (size : Nat) (b : MB) (ds : List D) (n : Nat) : evF S T size b ds n = match evB S T b (ds.map some ++ List.replicate (size - ds.length) none) n with
  | .nx _ n => .ok .non n
  | .rt d n => .ok d n
  | .ex c n _ => .ex c n
  | .bad => .bad := rfl
/-- the cell of the script -/
def cell (ns : List Int) (k : Int) : Int := ns.getD (k % (ns.length : Int)).toNat 0
def mix (ns : List Int) (k : Int) : Int :=
  let a := (cell ns k + 104729 * (k + 1)) % 4294967291
  let b := a ^ 5 % 4294967279
  (b / 64 * 69621 + b) % 4294967231
def draw (ns : List Int) (n : Nat) (many : Int) : Int := mix ns (n + 1 : Nat) / 8 % many
theorem run_cell (S : Sub) (ns : List Int) (k : Int) (n : Nat) (hk : 0 ≤ k) : r_law_cell S [.scr ns, .int k] n = .ok (.int (cell ns k)) n := by
  cases ns with
  | nil => simp [r_law_cell, evF_eq, b_law_cell, evB, evS, evE, sem1, truth, SO.of, SO.then, Out.bind, Out.lift, cell]
  | cons a r =>
    have h1 : (0 : Int) < ((a :: r).length : Int) := by simp only [List.length_cons]; omega
    have h2 : 0 ≤ k % ((a :: r).length : Int) := Int.emod_nonneg _ (by omega)
    have h3 : k % ((a :: r).length : Int) < ((a :: r).length : Int) := Int.emod_lt_of_pos _ h1
    have h4 : ixN (a :: r).length (k % ((a :: r).length : Int)) = some (k % ((a :: r).length : Int)).toNat := by
      unfold ixN; rw [if_pos h2, if_pos h3]
    have h5 : (k % ((a :: r).length : Int)).toNat < (a :: r).length := by omega
    have h6 : (a :: r)[(k % ((a :: r).length : Int)).toNat]? = some (cell (a :: r) k) := by
      unfold cell
      rw [List.getD_eq_getElem?_getD, List.getElem?_eq_getElem h5]
      rfl
    generalize hxs : a :: r = xs at *
    have ht : truth (.scr xs) = some true := by subst hxs; rfl
    simp only [r_law_cell, evF_eq, b_law_cell, evB, evS, evE, sem1, ht, SO.of, SO.then, Out.bind, Out.lift, sem2, h1, h4, h6, List.map_cons, List.map_nil, List.cons_append, List.getElem?_cons_zero, List.getElem?_cons_succ, Option.map_some, if_true, if_pos, Option.bind_some]
theorem mix_range (ns : List Int) (k : Int) : 0 ≤ mix ns k ∧ mix ns k < 4294967231 := by
  unfold mix
  exact ⟨Int.emod_nonneg _ (by decide), Int.emod_lt_of_pos _ (by decide)⟩
theorem run_mix (S : Sub) (ns : List Int) (k : Int) (n : Nat) (hk : 0 ≤ k) : r_law_mix S [.scr ns, .int k] n = .ok (.int (mix ns k)) n := by
  have hT : tabOf (c_law_mix S) "_law_cell" = some (2, r_law_cell S) := rfl
  have hm : (-(2 ^ 64) < (104729 : Int) ∧ (104729 : Int) < 2 ^ 64) ∨ (-(2 ^ 64) < k + 1 ∧ k + 1 < 2 ^ 64) := .inl (by decide)
  have a1 : 0 ≤ (cell ns k + 104729 * (k + 1)) % 4294967291 := Int.emod_nonneg _ (by decide)
  have a2 : (cell ns k + 104729 * (k + 1)) % 4294967291 < 4294967291 := Int.emod_lt_of_pos _ (by decide)
  simp only [r_law_mix, b_law_mix, evF_eq, evB, evS, evE, evA, evI, SO.of, SO.then, ofO, Out.bind, Out.lift, s2_add, s2_addS, s2_addL, s2_addT, s2_sub, s2_mul, s2_mod, s2_fdiv, s2_pow, s2_eq, s2_ne, s2_lt, s2_le, s2_gt, s2_ge, s2_inL, s2_ninL, s2_ixL, s2_ixT, s2_min, s2_max, s1_lenL, s1_lenT, s1_lenW, s1_all, s1_tru, s1_not, List.map_cons, List.map_nil, List.cons_append, List.nil_append, List.append_nil, List.getElem?_cons_zero, List.getElem?_cons_succ, List.length_cons, List.length_nil, Nat.reduceAdd, Nat.reduceSub, List.replicate, List.set_cons_zero, List.set_cons_succ, Option.map_some, Option.bind_some, if_true, if_false, Int.reduceLT, Int.reduceLE, and_self, true_and, and_true, reduceIte, hT, run_cell S ns k _ hk, if_pos hm, mix]
  generalize (cell ns k + 104729 * (k + 1)) % 4294967291 = a at a1 a2 ⊢
  have hp : a.natAbs < 2 ^ 64 := by omega
  have hq : ∀ b : Int, (-(2 ^ 64) < b / 64 ∧ b / 64 < 2 ^ 64) ∨ (-(2 ^ 64) < (69621 : Int) ∧ (69621 : Int) < 2 ^ 64) := fun b => .inr (by decide)
  simp only [evF_eq, evB, evS, evE, evA, evI, SO.of, SO.then, ofO, Out.bind, Out.lift, s2_add, s2_addS, s2_addL, s2_addT, s2_sub, s2_mul, s2_mod, s2_fdiv, s2_pow, s2_eq, s2_ne, s2_lt, s2_le, s2_gt, s2_ge, s2_inL, s2_ninL, s2_ixL, s2_ixT, s2_min, s2_max, s1_lenL, s1_lenT, s1_lenW, s1_all, s1_tru, s1_not, List.map_cons, List.map_nil, List.cons_append, List.nil_append, List.append_nil, List.getElem?_cons_zero, List.getElem?_cons_succ, List.length_cons, List.length_nil, Nat.reduceAdd, Nat.reduceSub, List.replicate, List.set_cons_zero, List.set_cons_succ, Option.map_some, Option.bind_some, if_true, if_false, Int.reduceLT, Int.reduceLE, and_self, true_and, and_true, reduceIte, if_pos hp, if_pos (hq _)]
  rfl
theorem run_draw (S : Sub) (ns : List Int) (many : Int) (n : Nat) (hm : 0 < many) (hn : n < line) : r_law_draw S [.scr ns, .town, .int many] n = .ok (.int (draw ns n many)) (n + 1) := by
  have hT : tabOf (c_law_draw S) "_law_mix" = some (2, r_law_mix S) := rfl
  have h0 : (0 : Int) ≤ ((n + 1 : Nat) : Int) := by omega
  simp only [r_law_draw, b_law_draw, evF_eq, evB, evS, evE, evA, evI, SO.of, SO.then, ofO, Out.bind, Out.lift, s2_add, s2_addS, s2_addL, s2_addT, s2_sub, s2_mul, s2_mod, s2_fdiv, s2_pow, s2_eq, s2_ne, s2_lt, s2_le, s2_gt, s2_ge, s2_inL, s2_ninL, s2_ixL, s2_ixT, s2_min, s2_max, s1_lenL, s1_lenT, s1_lenW, s1_all, s1_tru, s1_not, List.map_cons, List.map_nil, List.cons_append, List.nil_append, List.append_nil, List.getElem?_cons_zero, List.getElem?_cons_succ, List.length_cons, List.length_nil, Nat.reduceAdd, Nat.reduceSub, List.replicate, List.set_cons_zero, List.set_cons_succ, Option.map_some, Option.bind_some, if_true, if_false, Int.reduceLT, Int.reduceLE, and_self, true_and, and_true, reduceIte, hT, if_pos hn, run_mix S ns _ _ h0, if_pos hm, draw]
theorem draw_range (ns : List Int) (n : Nat) {many : Int} (hm : 0 < many) : 0 ≤ draw ns n many ∧ draw ns n many < many := by
  unfold draw
  exact ⟨Int.emod_nonneg _ (by omega), Int.emod_lt_of_pos _ hm⟩
theorem run_pick (S : Sub) (ns : List Int) (xs : List D) (n : Nat) (hx : xs ≠ []) (hn : n < line) : ∃ d ∈ xs, r_law_pick S [.scr ns, .town, .lst xs] n = .ok d (n + 1) := by
  have hT : tabOf (c_law_pick S) "_law_draw" = some (3, r_law_draw S) := rfl
  have hl : (0 : Int) < (xs.length : Int) := by
    have : 0 < xs.length := List.length_pos_iff.mpr hx
    omega
  obtain ⟨d0, d1⟩ := draw_range ns n hl
  have h4 : ixN xs.length (draw ns n xs.length) = some (draw ns n xs.length).toNat := by
    unfold ixN; rw [if_pos d0, if_pos d1]
  have h5 : (draw ns n xs.length).toNat < xs.length := by omega
  refine ⟨xs[(draw ns n xs.length).toNat], List.getElem_mem h5, ?_⟩
  simp only [r_law_pick, b_law_pick, evF_eq, evB, evS, evE, evA, evI, SO.of, SO.then, ofO, Out.bind, Out.lift, s2_add, s2_addS, s2_addL, s2_addT, s2_sub, s2_mul, s2_mod, s2_fdiv, s2_pow, s2_eq, s2_ne, s2_lt, s2_le, s2_gt, s2_ge, s2_inL, s2_ninL, s2_ixL, s2_ixT, s2_min, s2_max, s1_lenL, s1_lenT, s1_lenW, s1_all, s1_tru, s1_not, List.map_cons, List.map_nil, List.cons_append, List.nil_append, List.append_nil, List.getElem?_cons_zero, List.getElem?_cons_succ, List.length_cons, List.length_nil, Nat.reduceAdd, Nat.reduceSub, List.replicate, List.set_cons_zero, List.set_cons_succ, Option.map_some, Option.bind_some, if_true, if_false, Int.reduceLT, Int.reduceLE, and_self, true_and, and_true, reduceIte, hT, run_draw S ns _ _ hl hn, h4, List.getElem?_eq_getElem h5]
abbrev S0 : Sub := subS ec
abbrev T0 : Tab := tabOf (c_law S0)
theorem evB_nx {S : Sub} {T : Tab} {s : MS} {b : MB} {env env' : Ev} {n n' : Nat} (h : evS S T s env n = .nx env' n') : evB S T (.cons s b) env n = evB S T b env' n' := by
  simp only [evB, h, SO.then]
def tables : List D := [.tup [], .tup [.tup [.int 1]], .tup [.tup [.int 0, .int 0]], .tup [.tup [.int 0, .int 0], .tup [.int 0]], .tup [.tup [.int 0, .int 2], .tup [.int 0, .int 0]],
  .tup (List.replicate 7 (.tup (List.replicate 7 (.int 0)))), .tup [.tup [.int (-1)]]]
def great : D := .tup [.tup [.int 0, .int 0, .int 0], .tup [.int 0, .int 0, .int 0], .tup [.int 0, .int 0, .int 0]]
def things : List D := [.int (-1), .int 3]
def partingsB : List D := [.tup [], .tup [.int 0, .int 0], .tup [.int 1, .int 1, .int 1], .tup [.int 0, .int 2, .int 2], .tup [.int 0, .int 0, .int 3], .tup [.int 0, .int 0, .int 0, .int 0]]
def leadingsB : List D := [.tup [], .tup [.int 0, .int 0], .tup [.int 0, .int 0, .int 3], .tup [.int 0, .int 0, .int (-1)], .tup [.int 0, .int 0, .int 0, .int 0]]
def deepT : D := .tup [.tup [.tup [.tup [.str "x", .str "x"], .str "x"], .str "x"], .str "x"]
def sayingsB : List D := [.tup [.str "x", .str "w"], .tup [.str "x"], .tup [.str "x", .tup [.str "x"]], .tup [.str "", .str "x"], .tup [.str "x", deepT]]
theorem k_9 (ns : List Int) (t a b c d : D) (ht : t ∈ tables) : evS S0 T0 b_law_9 [some (.scr ns), some .town, some (.lst [t, a, b, c, d, great]), some t, some a, some b, some c, some deepT, some d, some great, none] 5 =
    .nx [some (.scr ns), some .town, some (.lst [t, a, b, c, d, great]), some t, some a, some b, some c, some deepT, some d, some great, none] 5 := by
  simp only [tables, List.mem_cons, List.not_mem_nil, or_false] at ht
  rcases ht with rfl | rfl | rfl | rfl | rfl | rfl | rfl
  · kernel_rfl
  · kernel_rfl
  · kernel_rfl
  · kernel_rfl
  · kernel_rfl
  · kernel_rfl
  · kernel_rfl
def env9 (ns : List Int) (t a b c d : D) : Ev := [some (.scr ns), some .town, some (.lst [great, a, b, c, d, great]), some t, some a, some b, some c, some deepT, some d, some great, none]
theorem k_11 (ns : List Int) (t a b c d : D) (ha : a ∈ things) : evS S0 T0 b_law_11 (env9 ns t a b c d) 5 = .nx (env9 ns t a b c d) 5 := by
  simp only [things, List.mem_cons, List.not_mem_nil, or_false] at ha
  rcases ha with rfl | rfl
  · kernel_rfl
  · kernel_rfl
theorem k_12 (ns : List Int) (t a b c d : D) : evS S0 T0 b_law_12 (env9 ns t a b c d) 5 = .nx (env9 ns t a b c d) 5 := by kernel_rfl
theorem k_13 (ns : List Int) (t a b c d : D) (hb : b ∈ partingsB) : evS S0 T0 b_law_13 (env9 ns t a b c d) 5 = .nx (env9 ns t a b c d) 5 := by
  simp only [partingsB, List.mem_cons, List.not_mem_nil, or_false] at hb
  rcases hb with rfl | rfl | rfl | rfl | rfl | rfl
  · kernel_rfl
  · kernel_rfl
  · kernel_rfl
  · kernel_rfl
  · kernel_rfl
  · kernel_rfl
theorem k_14 (ns : List Int) (t a b c d : D) (hc : c ∈ leadingsB) : evS S0 T0 b_law_14 (env9 ns t a b c d) 5 = .nx (env9 ns t a b c d) 5 := by
  simp only [leadingsB, List.mem_cons, List.not_mem_nil, or_false] at hc
  rcases hc with rfl | rfl | rfl | rfl | rfl
  · kernel_rfl
  · kernel_rfl
  · kernel_rfl
  · kernel_rfl
  · kernel_rfl
theorem k_15 (ns : List Int) (t a b c d : D) (hd : d ∈ sayingsB) : evS S0 T0 b_law_15 (env9 ns t a b c d) 5 = .rt (.bl true) 5 := by
  simp only [sayingsB, List.mem_cons, List.not_mem_nil, or_false] at hd
  rcases hd with rfl | rfl | rfl | rfl | rfl
  · kernel_rfl
  · kernel_rfl
  · kernel_rfl
  · kernel_rfl
  · kernel_rfl
theorem pick_set {S : Sub} {T : Tab} {i : Nat} {e : ME} {env : Ev} {ns : List Int} {n n' : Nat} {xs : List D} {d : D} (hT : T "_law_pick" = some (3, r_law_pick S)) (h0 : env[0]? = some (some (.scr ns))) (h1 : env[1]? = some (some .town)) (he : evE S T e env n = .ok (.lst xs) n) (hp : r_law_pick S [.scr ns, .town, .lst xs] n = .ok d n') :
    evS S T (.set i (.call "_law_pick" (.cons (.v 0) (.cons (.v 1) (.cons e .nil))))) env n = .nx (env.set i (some d)) n' := by
  simp only [evS, evE, evA, hT, h0, h1, he, Out.bind, SO.of, List.length_cons, List.length_nil, Nat.reduceAdd, if_true, hp]
theorem plain : ∀ ns : List Int, ns.length ≤ 63 → ∃ n, evB S0 T0 b_law (some (.scr ns) :: some .town :: List.replicate 9 none) 0 = .rt (.bl true) n := by
  intro ns _
  obtain ⟨t, ht, e1⟩ := run_pick S0 ns tables 0 (by simp [tables]) (by decide)
  obtain ⟨a, ha, e2⟩ := run_pick S0 ns things 1 (by simp [things]) (by decide)
  obtain ⟨b, hb, e3⟩ := run_pick S0 ns partingsB 2 (by simp [partingsB]) (by decide)
  obtain ⟨c, hc, e4⟩ := run_pick S0 ns leadingsB 3 (by simp [leadingsB]) (by decide)
  obtain ⟨d, hd, e6⟩ := run_pick S0 ns sayingsB 4 (by simp [sayingsB]) (by decide)
  have hT : T0 "_law_pick" = some (3, r_law_pick S0) := by kernel_rfl
  refine ⟨5, ?_⟩
  have s0 : evS S0 T0 b_law_0 [some (.scr ns), some .town, none, none, none, none, none, none, none, none, none] 0 = .nx [some (.scr ns), some .town, some (.lst tables), none, none, none, none, none, none, none, none] 0 := by kernel_rfl
  have s1 : evS S0 T0 b_law_1 [some (.scr ns), some .town, some (.lst tables), none, none, none, none, none, none, none, none] 0 = .nx [some (.scr ns), some .town, some (.lst tables), some t, none, none, none, none, none, none, none] 1 := pick_set hT rfl rfl (by kernel_rfl) e1
  have s2 : evS S0 T0 b_law_2 [some (.scr ns), some .town, some (.lst tables), some t, none, none, none, none, none, none, none] 1 = .nx [some (.scr ns), some .town, some (.lst tables), some t, some a, none, none, none, none, none, none] 2 := pick_set hT rfl rfl (by kernel_rfl) e2
  have s3 : evS S0 T0 b_law_3 [some (.scr ns), some .town, some (.lst tables), some t, some a, none, none, none, none, none, none] 2 = .nx [some (.scr ns), some .town, some (.lst tables), some t, some a, some b, none, none, none, none, none] 3 := pick_set hT rfl rfl (by kernel_rfl) e3
  have s4 : evS S0 T0 b_law_4 [some (.scr ns), some .town, some (.lst tables), some t, some a, some b, none, none, none, none, none] 3 = .nx [some (.scr ns), some .town, some (.lst tables), some t, some a, some b, some c, none, none, none, none] 4 := pick_set hT rfl rfl (by kernel_rfl) e4
  have s5 : evS S0 T0 b_law_5 [some (.scr ns), some .town, some (.lst tables), some t, some a, some b, some c, none, none, none, none] 4 = .nx [some (.scr ns), some .town, some (.lst tables), some t, some a, some b, some c, some deepT, none, none, none] 4 := by kernel_rfl
  have s6 : evS S0 T0 b_law_6 [some (.scr ns), some .town, some (.lst tables), some t, some a, some b, some c, some deepT, none, none, none] 4 = .nx [some (.scr ns), some .town, some (.lst tables), some t, some a, some b, some c, some deepT, some d, none, none] 5 := pick_set hT rfl rfl (by kernel_rfl) e6
  have s7 : evS S0 T0 b_law_7 [some (.scr ns), some .town, some (.lst tables), some t, some a, some b, some c, some deepT, some d, none, none] 5 = .nx [some (.scr ns), some .town, some (.lst tables), some t, some a, some b, some c, some deepT, some d, some great, none] 5 := by kernel_rfl
  have s8 : evS S0 T0 b_law_8 [some (.scr ns), some .town, some (.lst tables), some t, some a, some b, some c, some deepT, some d, some great, none] 5 = .nx [some (.scr ns), some .town, some (.lst [t, a, b, c, d, great]), some t, some a, some b, some c, some deepT, some d, some great, none] 5 := by kernel_rfl
  have s10 : evS S0 T0 b_law_10 [some (.scr ns), some .town, some (.lst [t, a, b, c, d, great]), some t, some a, some b, some c, some deepT, some d, some great, none] 5 = .nx (env9 ns t a b c d) 5 := by kernel_rfl
  show evB S0 T0 b_law [some (.scr ns), some .town, none, none, none, none, none, none, none, none, none] 0 = _
  unfold b_law
  rw [evB_nx s0, evB_nx s1, evB_nx s2, evB_nx s3, evB_nx s4, evB_nx s5, evB_nx s6, evB_nx s7, evB_nx s8, evB_nx (k_9 ns t a b c d ht), evB_nx s10, evB_nx (k_11 ns t a b c d ha), evB_nx (k_12 ns t a b c d), evB_nx (k_13 ns t a b c d hb), evB_nx (k_14 ns t a b c d hc)]
  simp only [evB, k_15 ns t a b c d hd, SO.then]
end Ko

namespace Ko
open PySem PySem.Spec PyProof.Rows L2 L2.Ms Mv
def top (i : Nat) : Stmt := PySem.Challenge.pw_onerule_k91_whole_two_at_once.main.body.getD i (.Pass ⟨0, 0, 0, 0⟩)
def dd (i : Nat) (x : Str) : He.DefD := ⟨(x, none), x, x, defArgs (top i), defBody (top i), defScope (top i), [], []⟩
def fn : List He.DefD := ([dd 12 "look_table", dd 13 "look_thing", dd 14 "look_things", dd 15 "of_two", dd 16 "renamed", dd 17 "call", dd 18 "times", dd 20 "look_parting", dd 21 "does_keep", dd 22 "is_kept", dd 23 "tidied", dd 24 "together", dd 25 "closed", dd 26 "met", dd 27 "both_met", dd 28 "both_joined", dd 29 "parted_table", dd 31 "does_lead", dd 32 "look_leading", dd 33 "is_leading", dd 34 "leadings", dd 35 "can_go_on", dd 36 "turns", dd 37 "image", dd 38 "parting_of", dd 40 "grown", dd 41 "made_of", dd 42 "is_part", dd 43 "part_table", dd 44 "power_row"] : List He.DefD) ++ ([dd 48 "is_term", dd 49 "look_saying", dd 50 "letters_of", dd 51 "worth", dd 52 "first_against", dd 53 "holds", dd 54 "held", dd 56 "_law_cell", dd 57 "_law_mix", dd 58 "_law_draw", dd 59 "_law_pick", dd 60 "_law_refusal", dd 61 "_law_one_b", dd 62 "_law_one", dd 63 "_law_told", dd 64 "law"] : List He.DefD)
def fa : List He.Fa := ([.glo "look_table", .glo "look_thing", .glo "look_things", .glo "of_two", .glo "renamed", .glo "call", .glo "times", .glo "look_parting", .glo "does_keep", .glo "is_kept", .glo "tidied", .glo "together", .glo "closed", .glo "met", .glo "both_met", .glo "both_joined", .glo "parted_table", .glo "does_lead", .glo "look_leading", .glo "is_leading", .glo "leadings", .glo "can_go_on", .glo "turns", .glo "image", .glo "parting_of", .glo "grown", .glo "made_of", .glo "is_part", .glo "part_table", .glo "power_row"] : List He.Fa) ++ ([.glo "is_term", .glo "look_saying", .glo "letters_of", .glo "worth", .glo "first_against", .glo "holds", .glo "held", .glo "_law_cell", .glo "_law_mix", .glo "_law_draw", .glo "_law_pick", .glo "_law_refusal", .glo "_law_one_b", .glo "_law_one", .glo "_law_told", .glo "law"] : List He.Fa)
def names : List Str := (["RuleError", "BadTable", "BadThing", "BadParting", "BadSaying", "BadLeading", "BadNumber", "TooGreat", "BadText", "MOST", "look_table", "look_thing", "look_things", "of_two", "renamed", "call", "times", "look_parting", "does_keep", "is_kept", "tidied", "together", "closed", "met", "both_met", "both_joined", "parted_table", "does_lead", "look_leading", "is_leading"] : List Str) ++ (["leadings", "can_go_on", "turns", "image", "parting_of", "grown", "made_of", "is_part", "part_table", "power_row", "LETTERS", "MOST_DEEP", "is_term", "look_saying", "letters_of", "worth", "first_against", "holds", "held", "_law_cell", "_law_mix", "_law_draw", "_law_pick", "_law_refusal", "_law_one_b", "_law_one", "_law_told"] : List Str)
def fr : List Str := (["ValueError", "all", "dict", "isinstance", "len", "list", "max", "min", "range", "set", "sorted", "str", "tuple", "zip"] : List Str)
def gc : List (Str × D) := ([("MOST", .int 6), ("LETTERS", .str "xyz"), ("MOST_DEEP", .int 3)] : List (Str × D))
def cf (N : List Str) : Cfg := ⟨N, fr, gc, ec⟩
abbrev R : PySem.W.OpenRow := PySem.W.OpenLaw.row PySem.Challenge.rw_onerule_k91_whole_two_at_once
abbrev hk : PySem.W.Hook := hookM 5 fa fn (mfB fr gc ec)
def ob (s : PySem.W.SharedT) : Al := obsM 5 fa fn (mfB fr gc ec) (HandSHeadRun.getT s)
theorem ob_eq (s : PySem.W.SharedT) : ob s = hk.obs s.abs := obsM_eq (HandSHeadRun.getT_eq s)
theorem run (w : World) : HandSHeadRun.RunEq R (PySem.W.view R.prog [64]) hk ob 6000 names w := by
  intro os
  kernel_rfl
theorem s_look_table : FnScope N_look_table ["table"] (defScope (top 12)) := ⟨rfl, rfl, rfl, by decide +kernel, rfl, by decide +kernel, by decide +kernel⟩
theorem e_look_table : cB (cf N_look_table) (fun _ => false) 60 (defScope (top 12)) (defBody (top 12)) = b_look_table := by kernel_rfl
theorem s_look_thing : FnScope N_look_thing ["table", "thing"] (defScope (top 13)) := ⟨rfl, rfl, rfl, by decide +kernel, rfl, by decide +kernel, by decide +kernel⟩
theorem e_look_thing : cB (cf N_look_thing) (fun _ => false) 60 (defScope (top 13)) (defBody (top 13)) = b_look_thing := by kernel_rfl
theorem s_look_things : FnScope N_look_things ["table", "some"] (defScope (top 14)) := ⟨rfl, rfl, rfl, by decide +kernel, rfl, by decide +kernel, by decide +kernel⟩
theorem e_look_things : cB (cf N_look_things) (fun _ => false) 60 (defScope (top 14)) (defBody (top 14)) = b_look_things := by kernel_rfl
theorem s_of_two : FnScope N_of_two ["table", "one", "other"] (defScope (top 15)) := ⟨rfl, rfl, rfl, by decide +kernel, rfl, by decide +kernel, by decide +kernel⟩
theorem e_of_two : cB (cf N_of_two) (fun _ => false) 60 (defScope (top 15)) (defBody (top 15)) = b_of_two := by kernel_rfl
theorem s_call : FnScope N_call ["table", "names"] (defScope (top 17)) := ⟨rfl, rfl, rfl, by decide +kernel, rfl, by decide +kernel, by decide +kernel⟩
theorem e_call : cB (cf N_call) (fun _ => false) 60 (defScope (top 17)) (defBody (top 17)) = b_call := by kernel_rfl
theorem s_renamed : FnScope N_renamed ["table", "names"] (defScope (top 16)) := ⟨rfl, rfl, rfl, by decide +kernel, rfl, by decide +kernel, by decide +kernel⟩
theorem e_renamed : cB (cf N_renamed) (fun _ => false) 60 (defScope (top 16)) (defBody (top 16)) = b_renamed := by kernel_rfl
theorem s_times : FnScope N_times ["one", "other"] (defScope (top 18)) := ⟨rfl, rfl, rfl, by decide +kernel, rfl, by decide +kernel, by decide +kernel⟩
theorem e_times : cB (cf N_times) (fun _ => false) 60 (defScope (top 18)) (defBody (top 18)) = b_times := by kernel_rfl
theorem s_look_parting : FnScope N_look_parting ["table", "parting"] (defScope (top 20)) := ⟨rfl, rfl, rfl, by decide +kernel, rfl, by decide +kernel, by decide +kernel⟩
theorem e_look_parting : cB (cf N_look_parting) (fun _ => false) 60 (defScope (top 20)) (defBody (top 20)) = b_look_parting := by kernel_rfl
theorem s_does_keep : FnScope N_does_keep ["table", "parting"] (defScope (top 21)) := ⟨rfl, rfl, rfl, by decide +kernel, rfl, by decide +kernel, by decide +kernel⟩
theorem e_does_keep : cB (cf N_does_keep) (fun _ => false) 60 (defScope (top 21)) (defBody (top 21)) = b_does_keep := by kernel_rfl
theorem s_is_kept : FnScope N_is_kept ["table", "parting"] (defScope (top 22)) := ⟨rfl, rfl, rfl, by decide +kernel, rfl, by decide +kernel, by decide +kernel⟩
theorem e_is_kept : cB (cf N_is_kept) (fun _ => false) 60 (defScope (top 22)) (defBody (top 22)) = b_is_kept := by kernel_rfl
theorem s_tidied : FnScope N_tidied ["parting"] (defScope (top 23)) := ⟨rfl, rfl, rfl, by decide +kernel, rfl, by decide +kernel, by decide +kernel⟩
theorem e_tidied : cB (cf N_tidied) (fun _ => false) 60 (defScope (top 23)) (defBody (top 23)) = b_tidied := by kernel_rfl
theorem s_closed : FnScope N_closed ["table", "names", "pairs"] (defScope (top 25)) := ⟨rfl, rfl, rfl, by decide +kernel, rfl, by decide +kernel, by decide +kernel⟩
theorem e_closed : cB (cf N_closed) (fun _ => false) 60 (defScope (top 25)) (defBody (top 25)) = b_closed := by kernel_rfl
theorem s_together : FnScope N_together ["table", "pairs"] (defScope (top 24)) := ⟨rfl, rfl, rfl, by decide +kernel, rfl, by decide +kernel, by decide +kernel⟩
theorem e_together : cB (cf N_together) (fun _ => false) 60 (defScope (top 24)) (defBody (top 24)) = b_together := by kernel_rfl
theorem s_met : FnScope N_met ["one", "other"] (defScope (top 26)) := ⟨rfl, rfl, rfl, by decide +kernel, rfl, by decide +kernel, by decide +kernel⟩
theorem e_met : cB (cf N_met) (fun _ => false) 60 (defScope (top 26)) (defBody (top 26)) = b_met := by kernel_rfl
theorem s_both_met : FnScope N_both_met ["table", "one", "other"] (defScope (top 27)) := ⟨rfl, rfl, rfl, by decide +kernel, rfl, by decide +kernel, by decide +kernel⟩
theorem e_both_met : cB (cf N_both_met) (fun _ => false) 60 (defScope (top 27)) (defBody (top 27)) = b_both_met := by kernel_rfl
theorem s_both_joined : FnScope N_both_joined ["table", "one", "other"] (defScope (top 28)) := ⟨rfl, rfl, rfl, by decide +kernel, rfl, by decide +kernel, by decide +kernel⟩
theorem e_both_joined : cB (cf N_both_joined) (fun _ => false) 60 (defScope (top 28)) (defBody (top 28)) = b_both_joined := by kernel_rfl
theorem s_parted_table : FnScope N_parted_table ["table", "parting"] (defScope (top 29)) := ⟨rfl, rfl, rfl, by decide +kernel, rfl, by decide +kernel, by decide +kernel⟩
theorem e_parted_table : cB (cf N_parted_table) (fun _ => false) 60 (defScope (top 29)) (defBody (top 29)) = b_parted_table := by kernel_rfl
theorem s_does_lead : FnScope N_does_lead ["one", "other", "leading"] (defScope (top 31)) := ⟨rfl, rfl, rfl, by decide +kernel, rfl, by decide +kernel, by decide +kernel⟩
theorem e_does_lead : cB (cf N_does_lead) (fun _ => false) 60 (defScope (top 31)) (defBody (top 31)) = b_does_lead := by kernel_rfl
theorem s_look_leading : FnScope N_look_leading ["one", "other", "leading"] (defScope (top 32)) := ⟨rfl, rfl, rfl, by decide +kernel, rfl, by decide +kernel, by decide +kernel⟩
theorem e_look_leading : cB (cf N_look_leading) (fun _ => false) 60 (defScope (top 32)) (defBody (top 32)) = b_look_leading := by kernel_rfl
theorem s_is_leading : FnScope N_is_leading ["one", "other", "leading"] (defScope (top 33)) := ⟨rfl, rfl, rfl, by decide +kernel, rfl, by decide +kernel, by decide +kernel⟩
theorem e_is_leading : cB (cf N_is_leading) (fun _ => false) 60 (defScope (top 33)) (defBody (top 33)) = b_is_leading := by kernel_rfl
theorem s_can_go_on : FnScope N_can_go_on ["one", "other", "some"] (defScope (top 35)) := ⟨rfl, rfl, rfl, by decide +kernel, rfl, by decide +kernel, by decide +kernel⟩
theorem e_can_go_on : cB (cf N_can_go_on) (fun _ => false) 60 (defScope (top 35)) (defBody (top 35)) = b_can_go_on := by kernel_rfl
theorem s_leadings : FnScope N_leadings ["one", "other"] (defScope (top 34)) := ⟨rfl, rfl, rfl, by decide +kernel, rfl, by decide +kernel, by decide +kernel⟩
theorem e_leadings : cB (cf N_leadings) (fun _ => false) 60 (defScope (top 34)) (defBody (top 34)) = b_leadings := by kernel_rfl
theorem s_turns : FnScope N_turns ["one", "other"] (defScope (top 36)) := ⟨rfl, rfl, rfl, by decide +kernel, rfl, by decide +kernel, by decide +kernel⟩
theorem e_turns : cB (cf N_turns) (fun _ => false) 60 (defScope (top 36)) (defBody (top 36)) = b_turns := by kernel_rfl
theorem s_image : FnScope N_image ["one", "other", "leading"] (defScope (top 37)) := ⟨rfl, rfl, rfl, by decide +kernel, rfl, by decide +kernel, by decide +kernel⟩
theorem e_image : cB (cf N_image) (fun _ => false) 60 (defScope (top 37)) (defBody (top 37)) = b_image := by kernel_rfl
theorem s_parting_of : FnScope N_parting_of ["one", "other", "leading"] (defScope (top 38)) := ⟨rfl, rfl, rfl, by decide +kernel, rfl, by decide +kernel, by decide +kernel⟩
theorem e_parting_of : cB (cf N_parting_of) (fun _ => false) 60 (defScope (top 38)) (defBody (top 38)) = b_parting_of := by kernel_rfl
theorem s_grown : FnScope N_grown ["table", "some"] (defScope (top 40)) := ⟨rfl, rfl, rfl, by decide +kernel, rfl, by decide +kernel, by decide +kernel⟩
theorem e_grown : cB (cf N_grown) (fun _ => false) 60 (defScope (top 40)) (defBody (top 40)) = b_grown := by kernel_rfl
theorem s_made_of : FnScope N_made_of ["table", "some"] (defScope (top 41)) := ⟨rfl, rfl, rfl, by decide +kernel, rfl, by decide +kernel, by decide +kernel⟩
theorem e_made_of : cB (cf N_made_of) (fun _ => false) 60 (defScope (top 41)) (defBody (top 41)) = b_made_of := by kernel_rfl
theorem s_is_part : FnScope N_is_part ["table", "some"] (defScope (top 42)) := ⟨rfl, rfl, rfl, by decide +kernel, rfl, by decide +kernel, by decide +kernel⟩
theorem e_is_part : cB (cf N_is_part) (fun _ => false) 60 (defScope (top 42)) (defBody (top 42)) = b_is_part := by kernel_rfl
theorem s_part_table : FnScope N_part_table ["table", "some"] (defScope (top 43)) := ⟨rfl, rfl, rfl, by decide +kernel, rfl, by decide +kernel, by decide +kernel⟩
theorem e_part_table : cB (cf N_part_table) (fun _ => false) 60 (defScope (top 43)) (defBody (top 43)) = b_part_table := by kernel_rfl
theorem s_power_row : FnScope N_power_row ["table", "thing"] (defScope (top 44)) := ⟨rfl, rfl, rfl, by decide +kernel, rfl, by decide +kernel, by decide +kernel⟩
theorem e_power_row : cB (cf N_power_row) (fun _ => false) 60 (defScope (top 44)) (defBody (top 44)) = b_power_row := by kernel_rfl
theorem s_is_term : FnScope N_is_term ["term", "deep"] (defScope (top 48)) := ⟨rfl, rfl, rfl, by decide +kernel, rfl, by decide +kernel, by decide +kernel⟩
theorem e_is_term : cB (cf N_is_term) (fun _ => false) 60 (defScope (top 48)) (defBody (top 48)) = b_is_term := by kernel_rfl
theorem s_look_saying : FnScope N_look_saying ["saying"] (defScope (top 49)) := ⟨rfl, rfl, rfl, by decide +kernel, rfl, by decide +kernel, by decide +kernel⟩
theorem e_look_saying : cB (cf N_look_saying) (fun _ => false) 60 (defScope (top 49)) (defBody (top 49)) = b_look_saying := by kernel_rfl
theorem s_letters_of : FnScope N_letters_of ["term"] (defScope (top 50)) := ⟨rfl, rfl, rfl, by decide +kernel, rfl, by decide +kernel, by decide +kernel⟩
theorem e_letters_of : cB (cf N_letters_of) (fun _ => false) 60 (defScope (top 50)) (defBody (top 50)) = b_letters_of := by kernel_rfl
theorem s_worth : FnScope N_worth ["table", "term", "things"] (defScope (top 51)) := ⟨rfl, rfl, rfl, by decide +kernel, rfl, by decide +kernel, by decide +kernel⟩
theorem e_worth : cB (cf N_worth) (fun _ => false) 60 (defScope (top 51)) (defBody (top 51)) = b_worth := by kernel_rfl
theorem s_first_against : FnScope N_first_against ["table", "saying"] (defScope (top 52)) := ⟨rfl, rfl, rfl, by decide +kernel, rfl, by decide +kernel, by decide +kernel⟩
theorem e_first_against : cB (cf N_first_against) (fun _ => false) 60 (defScope (top 52)) (defBody (top 52)) = b_first_against := by kernel_rfl
theorem s_holds : FnScope N_holds ["table", "saying"] (defScope (top 53)) := ⟨rfl, rfl, rfl, by decide +kernel, rfl, by decide +kernel, by decide +kernel⟩
theorem e_holds : cB (cf N_holds) (fun _ => false) 60 (defScope (top 53)) (defBody (top 53)) = b_holds := by kernel_rfl
theorem s_held : FnScope N_held ["table", "sayings"] (defScope (top 54)) := ⟨rfl, rfl, rfl, by decide +kernel, rfl, by decide +kernel, by decide +kernel⟩
theorem e_held : cB (cf N_held) (fun _ => false) 60 (defScope (top 54)) (defBody (top 54)) = b_held := by kernel_rfl
theorem s_law_cell : FnScope N_law_cell ["script", "k"] (defScope (top 56)) := ⟨rfl, rfl, rfl, by decide +kernel, rfl, by decide +kernel, by decide +kernel⟩
theorem e_law_cell : cB (cf N_law_cell) (fun _ => false) 60 (defScope (top 56)) (defBody (top 56)) = b_law_cell := by kernel_rfl
theorem s_law_mix : FnScope N_law_mix ["script", "k"] (defScope (top 57)) := ⟨rfl, rfl, rfl, by decide +kernel, rfl, by decide +kernel, by decide +kernel⟩
theorem e_law_mix : cB (cf N_law_mix) (fun _ => false) 60 (defScope (top 57)) (defBody (top 57)) = b_law_mix := by kernel_rfl
theorem s_law_draw : FnScope N_law_draw ["script", "town", "many"] (defScope (top 58)) := ⟨rfl, rfl, rfl, by decide +kernel, rfl, by decide +kernel, by decide +kernel⟩
theorem e_law_draw : cB (cf N_law_draw) (fun _ => false) 60 (defScope (top 58)) (defBody (top 58)) = b_law_draw := by kernel_rfl
theorem s_law_pick : FnScope N_law_pick ["script", "town", "some"] (defScope (top 59)) := ⟨rfl, rfl, rfl, by decide +kernel, rfl, by decide +kernel, by decide +kernel⟩
theorem e_law_pick : cB (cf N_law_pick) (fun _ => false) 60 (defScope (top 59)) (defBody (top 59)) = b_law_pick := by kernel_rfl
theorem s_law_refusal : FnScope N_law_refusal ["caught"] (defScope (top 60)) := ⟨rfl, rfl, rfl, by decide +kernel, rfl, by decide +kernel, by decide +kernel⟩
theorem e_law_refusal : cB (cf N_law_refusal) (fun _ => false) 60 (defScope (top 60)) (defBody (top 60)) = b_law_refusal := by kernel_rfl
theorem s_law_one_b : FnScope N_law_one_b ["kind", "some"] (defScope (top 61)) := ⟨rfl, rfl, rfl, by decide +kernel, rfl, by decide +kernel, by decide +kernel⟩
theorem e_law_one_b : cB (cf N_law_one_b) (fun _ => false) 60 (defScope (top 61)) (defBody (top 61)) = b_law_one_b := by kernel_rfl
theorem s_law_one : FnScope N_law_one ["kind", "some"] (defScope (top 62)) := ⟨rfl, rfl, rfl, by decide +kernel, rfl, by decide +kernel, by decide +kernel⟩
theorem e_law_one : cB (cf N_law_one) (fun _ => false) 60 (defScope (top 62)) (defBody (top 62)) = b_law_one := by kernel_rfl
theorem s_law_told : FnScope N_law_told ["kind", "some"] (defScope (top 63)) := ⟨rfl, rfl, rfl, by decide +kernel, rfl, by decide +kernel, by decide +kernel⟩
theorem e_law_told : cB (cf N_law_told) (fun _ => false) 60 (defScope (top 63)) (defBody (top 63)) = b_law_told := by kernel_rfl
theorem s_law : FnScope N_law ["script"] (defScope (top 64)) := ⟨rfl, rfl, rfl, by decide +kernel, rfl, by decide +kernel, by decide +kernel⟩
theorem e_law : cB (cf N_law) (fun _ => false) 60 (defScope (top 64)) ((defBody (top 64)).tail) = b_law := by kernel_rfl
structure Facts (P : Program) (w : World) (K : PySem.W.Frag) (mg : Str → Option Value) (base : Heap) : Prop where
  M : MF fr gc ec (subS ec) K mg
  f_look_table : ∃ fd, FunD K "look_table" "look_table" (defArgs (top 12)) (defBody (top 12)) (defScope (top 12)) [] [] (He.ga K "look_table") fd
  g_look_table : mg "look_table" = some (.ref (He.ga K "look_table"))
  f_look_thing : ∃ fd, FunD K "look_thing" "look_thing" (defArgs (top 13)) (defBody (top 13)) (defScope (top 13)) [] [] (He.ga K "look_thing") fd
  g_look_thing : mg "look_thing" = some (.ref (He.ga K "look_thing"))
  f_look_things : ∃ fd, FunD K "look_things" "look_things" (defArgs (top 14)) (defBody (top 14)) (defScope (top 14)) [] [] (He.ga K "look_things") fd
  g_look_things : mg "look_things" = some (.ref (He.ga K "look_things"))
  f_of_two : ∃ fd, FunD K "of_two" "of_two" (defArgs (top 15)) (defBody (top 15)) (defScope (top 15)) [] [] (He.ga K "of_two") fd
  g_of_two : mg "of_two" = some (.ref (He.ga K "of_two"))
  f_call : ∃ fd, FunD K "call" "call" (defArgs (top 17)) (defBody (top 17)) (defScope (top 17)) [] [] (He.ga K "call") fd
  g_call : mg "call" = some (.ref (He.ga K "call"))
  f_renamed : ∃ fd, FunD K "renamed" "renamed" (defArgs (top 16)) (defBody (top 16)) (defScope (top 16)) [] [] (He.ga K "renamed") fd
  g_renamed : mg "renamed" = some (.ref (He.ga K "renamed"))
  f_times : ∃ fd, FunD K "times" "times" (defArgs (top 18)) (defBody (top 18)) (defScope (top 18)) [] [] (He.ga K "times") fd
  g_times : mg "times" = some (.ref (He.ga K "times"))
  f_look_parting : ∃ fd, FunD K "look_parting" "look_parting" (defArgs (top 20)) (defBody (top 20)) (defScope (top 20)) [] [] (He.ga K "look_parting") fd
  g_look_parting : mg "look_parting" = some (.ref (He.ga K "look_parting"))
  f_does_keep : ∃ fd, FunD K "does_keep" "does_keep" (defArgs (top 21)) (defBody (top 21)) (defScope (top 21)) [] [] (He.ga K "does_keep") fd
  g_does_keep : mg "does_keep" = some (.ref (He.ga K "does_keep"))
  f_is_kept : ∃ fd, FunD K "is_kept" "is_kept" (defArgs (top 22)) (defBody (top 22)) (defScope (top 22)) [] [] (He.ga K "is_kept") fd
  g_is_kept : mg "is_kept" = some (.ref (He.ga K "is_kept"))
  f_tidied : ∃ fd, FunD K "tidied" "tidied" (defArgs (top 23)) (defBody (top 23)) (defScope (top 23)) [] [] (He.ga K "tidied") fd
  g_tidied : mg "tidied" = some (.ref (He.ga K "tidied"))
  f_closed : ∃ fd, FunD K "closed" "closed" (defArgs (top 25)) (defBody (top 25)) (defScope (top 25)) [] [] (He.ga K "closed") fd
  g_closed : mg "closed" = some (.ref (He.ga K "closed"))
  f_together : ∃ fd, FunD K "together" "together" (defArgs (top 24)) (defBody (top 24)) (defScope (top 24)) [] [] (He.ga K "together") fd
  g_together : mg "together" = some (.ref (He.ga K "together"))
  f_met : ∃ fd, FunD K "met" "met" (defArgs (top 26)) (defBody (top 26)) (defScope (top 26)) [] [] (He.ga K "met") fd
  g_met : mg "met" = some (.ref (He.ga K "met"))
  f_both_met : ∃ fd, FunD K "both_met" "both_met" (defArgs (top 27)) (defBody (top 27)) (defScope (top 27)) [] [] (He.ga K "both_met") fd
  g_both_met : mg "both_met" = some (.ref (He.ga K "both_met"))
  f_both_joined : ∃ fd, FunD K "both_joined" "both_joined" (defArgs (top 28)) (defBody (top 28)) (defScope (top 28)) [] [] (He.ga K "both_joined") fd
  g_both_joined : mg "both_joined" = some (.ref (He.ga K "both_joined"))
  f_parted_table : ∃ fd, FunD K "parted_table" "parted_table" (defArgs (top 29)) (defBody (top 29)) (defScope (top 29)) [] [] (He.ga K "parted_table") fd
  g_parted_table : mg "parted_table" = some (.ref (He.ga K "parted_table"))
  f_does_lead : ∃ fd, FunD K "does_lead" "does_lead" (defArgs (top 31)) (defBody (top 31)) (defScope (top 31)) [] [] (He.ga K "does_lead") fd
  g_does_lead : mg "does_lead" = some (.ref (He.ga K "does_lead"))
  f_look_leading : ∃ fd, FunD K "look_leading" "look_leading" (defArgs (top 32)) (defBody (top 32)) (defScope (top 32)) [] [] (He.ga K "look_leading") fd
  g_look_leading : mg "look_leading" = some (.ref (He.ga K "look_leading"))
  f_is_leading : ∃ fd, FunD K "is_leading" "is_leading" (defArgs (top 33)) (defBody (top 33)) (defScope (top 33)) [] [] (He.ga K "is_leading") fd
  g_is_leading : mg "is_leading" = some (.ref (He.ga K "is_leading"))
  f_can_go_on : ∃ fd, FunD K "can_go_on" "can_go_on" (defArgs (top 35)) (defBody (top 35)) (defScope (top 35)) [] [] (He.ga K "can_go_on") fd
  g_can_go_on : mg "can_go_on" = some (.ref (He.ga K "can_go_on"))
  f_leadings : ∃ fd, FunD K "leadings" "leadings" (defArgs (top 34)) (defBody (top 34)) (defScope (top 34)) [] [] (He.ga K "leadings") fd
  g_leadings : mg "leadings" = some (.ref (He.ga K "leadings"))
  f_turns : ∃ fd, FunD K "turns" "turns" (defArgs (top 36)) (defBody (top 36)) (defScope (top 36)) [] [] (He.ga K "turns") fd
  g_turns : mg "turns" = some (.ref (He.ga K "turns"))
  f_image : ∃ fd, FunD K "image" "image" (defArgs (top 37)) (defBody (top 37)) (defScope (top 37)) [] [] (He.ga K "image") fd
  g_image : mg "image" = some (.ref (He.ga K "image"))
  f_parting_of : ∃ fd, FunD K "parting_of" "parting_of" (defArgs (top 38)) (defBody (top 38)) (defScope (top 38)) [] [] (He.ga K "parting_of") fd
  g_parting_of : mg "parting_of" = some (.ref (He.ga K "parting_of"))
  f_grown : ∃ fd, FunD K "grown" "grown" (defArgs (top 40)) (defBody (top 40)) (defScope (top 40)) [] [] (He.ga K "grown") fd
  g_grown : mg "grown" = some (.ref (He.ga K "grown"))
  f_made_of : ∃ fd, FunD K "made_of" "made_of" (defArgs (top 41)) (defBody (top 41)) (defScope (top 41)) [] [] (He.ga K "made_of") fd
  g_made_of : mg "made_of" = some (.ref (He.ga K "made_of"))
  f_is_part : ∃ fd, FunD K "is_part" "is_part" (defArgs (top 42)) (defBody (top 42)) (defScope (top 42)) [] [] (He.ga K "is_part") fd
  g_is_part : mg "is_part" = some (.ref (He.ga K "is_part"))
  f_part_table : ∃ fd, FunD K "part_table" "part_table" (defArgs (top 43)) (defBody (top 43)) (defScope (top 43)) [] [] (He.ga K "part_table") fd
  g_part_table : mg "part_table" = some (.ref (He.ga K "part_table"))
  f_power_row : ∃ fd, FunD K "power_row" "power_row" (defArgs (top 44)) (defBody (top 44)) (defScope (top 44)) [] [] (He.ga K "power_row") fd
  g_power_row : mg "power_row" = some (.ref (He.ga K "power_row"))
  f_is_term : ∃ fd, FunD K "is_term" "is_term" (defArgs (top 48)) (defBody (top 48)) (defScope (top 48)) [] [] (He.ga K "is_term") fd
  g_is_term : mg "is_term" = some (.ref (He.ga K "is_term"))
  f_look_saying : ∃ fd, FunD K "look_saying" "look_saying" (defArgs (top 49)) (defBody (top 49)) (defScope (top 49)) [] [] (He.ga K "look_saying") fd
  g_look_saying : mg "look_saying" = some (.ref (He.ga K "look_saying"))
  f_letters_of : ∃ fd, FunD K "letters_of" "letters_of" (defArgs (top 50)) (defBody (top 50)) (defScope (top 50)) [] [] (He.ga K "letters_of") fd
  g_letters_of : mg "letters_of" = some (.ref (He.ga K "letters_of"))
  f_worth : ∃ fd, FunD K "worth" "worth" (defArgs (top 51)) (defBody (top 51)) (defScope (top 51)) [] [] (He.ga K "worth") fd
  g_worth : mg "worth" = some (.ref (He.ga K "worth"))
  f_first_against : ∃ fd, FunD K "first_against" "first_against" (defArgs (top 52)) (defBody (top 52)) (defScope (top 52)) [] [] (He.ga K "first_against") fd
  g_first_against : mg "first_against" = some (.ref (He.ga K "first_against"))
  f_holds : ∃ fd, FunD K "holds" "holds" (defArgs (top 53)) (defBody (top 53)) (defScope (top 53)) [] [] (He.ga K "holds") fd
  g_holds : mg "holds" = some (.ref (He.ga K "holds"))
  f_held : ∃ fd, FunD K "held" "held" (defArgs (top 54)) (defBody (top 54)) (defScope (top 54)) [] [] (He.ga K "held") fd
  g_held : mg "held" = some (.ref (He.ga K "held"))
  f_law_cell : ∃ fd, FunD K "_law_cell" "_law_cell" (defArgs (top 56)) (defBody (top 56)) (defScope (top 56)) [] [] (He.ga K "_law_cell") fd
  g_law_cell : mg "_law_cell" = some (.ref (He.ga K "_law_cell"))
  f_law_mix : ∃ fd, FunD K "_law_mix" "_law_mix" (defArgs (top 57)) (defBody (top 57)) (defScope (top 57)) [] [] (He.ga K "_law_mix") fd
  g_law_mix : mg "_law_mix" = some (.ref (He.ga K "_law_mix"))
  f_law_draw : ∃ fd, FunD K "_law_draw" "_law_draw" (defArgs (top 58)) (defBody (top 58)) (defScope (top 58)) [] [] (He.ga K "_law_draw") fd
  g_law_draw : mg "_law_draw" = some (.ref (He.ga K "_law_draw"))
  f_law_pick : ∃ fd, FunD K "_law_pick" "_law_pick" (defArgs (top 59)) (defBody (top 59)) (defScope (top 59)) [] [] (He.ga K "_law_pick") fd
  g_law_pick : mg "_law_pick" = some (.ref (He.ga K "_law_pick"))
  f_law_refusal : ∃ fd, FunD K "_law_refusal" "_law_refusal" (defArgs (top 60)) (defBody (top 60)) (defScope (top 60)) [] [] (He.ga K "_law_refusal") fd
  g_law_refusal : mg "_law_refusal" = some (.ref (He.ga K "_law_refusal"))
  f_law_one_b : ∃ fd, FunD K "_law_one_b" "_law_one_b" (defArgs (top 61)) (defBody (top 61)) (defScope (top 61)) [] [] (He.ga K "_law_one_b") fd
  g_law_one_b : mg "_law_one_b" = some (.ref (He.ga K "_law_one_b"))
  f_law_one : ∃ fd, FunD K "_law_one" "_law_one" (defArgs (top 62)) (defBody (top 62)) (defScope (top 62)) [] [] (He.ga K "_law_one") fd
  g_law_one : mg "_law_one" = some (.ref (He.ga K "_law_one"))
  f_law_told : ∃ fd, FunD K "_law_told" "_law_told" (defArgs (top 63)) (defBody (top 63)) (defScope (top 63)) [] [] (He.ga K "_law_told") fd
  g_law_told : mg "_law_told" = some (.ref (He.ga K "_law_told"))
  f_law : ∃ fd, FunD K "law" "law" (defArgs (top 64)) (defBody (top 64)) (defScope (top 64)) [] [] (He.ga K "law") fd
  g_law : mg "law" = some (.ref (He.ga K "law"))
section
variable {P : Program} {w : World} {K : PySem.W.Frag} {mg : Str → Option Value} {base : Heap}
theorem ok_look_table (F : Facts P w K mg base) : FnG P w K mg base 1 "look_table" 1 (r_look_table (subS ec)) := by
  obtain ⟨fd, D⟩ := F.f_look_table
  exact fn_sound (L := 0) (g := cf N_look_table) (k := 60) (own := fun _ => false) D F.g_look_table s_look_table F.M tab_nil e_look_table (by decide +kernel) (fun _ _ => rfl) (fun _ _ _ _ _ _ us hl => match us, hl with | [_], _ => rfl)
theorem ok_look_thing (F : Facts P w K mg base) : FnG P w K mg base 1 "look_thing" 2 (r_look_thing (subS ec)) := by
  obtain ⟨fd, D⟩ := F.f_look_thing
  exact fn_sound (L := 0) (g := cf N_look_thing) (k := 60) (own := fun _ => false) D F.g_look_thing s_look_thing F.M tab_nil e_look_thing (by decide +kernel) (fun _ _ => rfl) (fun _ _ _ _ _ _ us hl => match us, hl with | [_, _], _ => rfl)
theorem ok_look_things (F : Facts P w K mg base) : FnG P w K mg base 2 "look_things" 2 (r_look_things (subS ec)) := by
  obtain ⟨fd, D⟩ := F.f_look_things
  exact fn_sound (L := 1) (g := cf N_look_things) (k := 60) (own := fun _ => false) D F.g_look_things s_look_things F.M (tab_cons (ok_look_table F) (by decide) (tab_cons (ok_look_thing F) (by decide) tab_nil)) e_look_things (by decide +kernel) (fun _ _ => rfl) (fun _ _ _ _ _ _ us hl => match us, hl with | [_, _], _ => rfl)
theorem ok_of_two (F : Facts P w K mg base) : FnG P w K mg base 3 "of_two" 3 (r_of_two (subS ec)) := by
  obtain ⟨fd, D⟩ := F.f_of_two
  exact fn_sound (L := 2) (g := cf N_of_two) (k := 60) (own := fun _ => false) D F.g_of_two s_of_two F.M (tab_cons (ok_look_things F) (by decide) tab_nil) e_of_two (by decide +kernel) (fun _ _ => rfl) (fun _ _ _ _ _ _ us hl => match us, hl with | [_, _, _], _ => rfl)
theorem ok_call (F : Facts P w K mg base) : FnG P w K mg base 1 "call" 2 (r_call (subS ec)) := by
  obtain ⟨fd, D⟩ := F.f_call
  exact fn_sound (L := 0) (g := cf N_call) (k := 60) (own := fun _ => false) D F.g_call s_call F.M tab_nil e_call (by decide +kernel) (fun _ _ => rfl) (fun _ _ _ _ _ _ us hl => match us, hl with | [_, _], _ => rfl)
theorem ok_renamed (F : Facts P w K mg base) : FnG P w K mg base 2 "renamed" 2 (r_renamed (subS ec)) := by
  obtain ⟨fd, D⟩ := F.f_renamed
  exact fn_sound (L := 1) (g := cf N_renamed) (k := 60) (own := fun _ => false) D F.g_renamed s_renamed F.M (tab_cons (ok_look_table F) (by decide) (tab_cons (ok_call F) (by decide) tab_nil)) e_renamed (by decide +kernel) (fun _ _ => rfl) (fun _ _ _ _ _ _ us hl => match us, hl with | [_, _], _ => rfl)
theorem ok_times (F : Facts P w K mg base) : FnG P w K mg base 2 "times" 2 (r_times (subS ec)) := by
  obtain ⟨fd, D⟩ := F.f_times
  exact fn_sound (L := 1) (g := cf N_times) (k := 60) (own := fun _ => false) D F.g_times s_times F.M (tab_cons (ok_look_table F) (by decide) tab_nil) e_times (by decide +kernel) (fun _ _ => rfl) (fun _ _ _ _ _ _ us hl => match us, hl with | [_, _], _ => rfl)
theorem ok_look_parting (F : Facts P w K mg base) : FnG P w K mg base 2 "look_parting" 2 (r_look_parting (subS ec)) := by
  obtain ⟨fd, D⟩ := F.f_look_parting
  exact fn_sound (L := 1) (g := cf N_look_parting) (k := 60) (own := fun _ => false) D F.g_look_parting s_look_parting F.M (tab_cons (ok_look_table F) (by decide) tab_nil) e_look_parting (by decide +kernel) (fun _ _ => rfl) (fun _ _ _ _ _ _ us hl => match us, hl with | [_, _], _ => rfl)
theorem ok_does_keep (F : Facts P w K mg base) : FnG P w K mg base 1 "does_keep" 2 (r_does_keep (subS ec)) := by
  obtain ⟨fd, D⟩ := F.f_does_keep
  exact fn_sound (L := 0) (g := cf N_does_keep) (k := 60) (own := fun _ => false) D F.g_does_keep s_does_keep F.M tab_nil e_does_keep (by decide +kernel) (fun _ _ => rfl) (fun _ _ _ _ _ _ us hl => match us, hl with | [_, _], _ => rfl)
theorem ok_is_kept (F : Facts P w K mg base) : FnG P w K mg base 3 "is_kept" 2 (r_is_kept (subS ec)) := by
  obtain ⟨fd, D⟩ := F.f_is_kept
  exact fn_sound (L := 2) (g := cf N_is_kept) (k := 60) (own := fun _ => false) D F.g_is_kept s_is_kept F.M (tab_cons (ok_look_parting F) (by decide) (tab_cons (ok_does_keep F) (by decide) tab_nil)) e_is_kept (by decide +kernel) (fun _ _ => rfl) (fun _ _ _ _ _ _ us hl => match us, hl with | [_, _], _ => rfl)
theorem ok_tidied (F : Facts P w K mg base) : FnG P w K mg base 1 "tidied" 1 (r_tidied (subS ec)) := by
  obtain ⟨fd, D⟩ := F.f_tidied
  exact fn_sound (L := 0) (g := cf N_tidied) (k := 60) (own := fun _ => false) D F.g_tidied s_tidied F.M tab_nil e_tidied (by decide +kernel) (fun _ _ => rfl) (fun _ _ _ _ _ _ us hl => match us, hl with | [_], _ => rfl)
theorem ok_closed (F : Facts P w K mg base) : FnG P w K mg base 1 "closed" 3 (r_closed (subS ec)) := by
  obtain ⟨fd, D⟩ := F.f_closed
  exact fn_sound (L := 0) (g := cf N_closed) (k := 60) (own := fun _ => false) D F.g_closed s_closed F.M tab_nil e_closed (by decide +kernel) (fun _ _ => rfl) (fun _ _ _ _ _ _ us hl => match us, hl with | [_, _, _], _ => rfl)
theorem ok_together (F : Facts P w K mg base) : FnG P w K mg base 3 "together" 2 (r_together (subS ec)) := by
  obtain ⟨fd, D⟩ := F.f_together
  exact fn_sound (L := 2) (g := cf N_together) (k := 60) (own := fun _ => false) D F.g_together s_together F.M (tab_cons (ok_look_table F) (by decide) (tab_cons (ok_look_things F) (by decide) (tab_cons (ok_closed F) (by decide) tab_nil))) e_together (by decide +kernel) (fun _ _ => rfl) (fun _ _ _ _ _ _ us hl => match us, hl with | [_, _], _ => rfl)
theorem ok_met (F : Facts P w K mg base) : FnG P w K mg base 2 "met" 2 (r_met (subS ec)) := by
  obtain ⟨fd, D⟩ := F.f_met
  exact fn_sound (L := 1) (g := cf N_met) (k := 60) (own := fun _ => false) D F.g_met s_met F.M (tab_cons (ok_tidied F) (by decide) tab_nil) e_met (by decide +kernel) (fun _ _ => rfl) (fun _ _ _ _ _ _ us hl => match us, hl with | [_, _], _ => rfl)
theorem ok_both_met (F : Facts P w K mg base) : FnG P w K mg base 3 "both_met" 3 (r_both_met (subS ec)) := by
  obtain ⟨fd, D⟩ := F.f_both_met
  exact fn_sound (L := 2) (g := cf N_both_met) (k := 60) (own := fun _ => false) D F.g_both_met s_both_met F.M (tab_cons (ok_look_parting F) (by decide) (tab_cons (ok_met F) (by decide) tab_nil)) e_both_met (by decide +kernel) (fun _ _ => rfl) (fun _ _ _ _ _ _ us hl => match us, hl with | [_, _, _], _ => rfl)
theorem ok_both_joined (F : Facts P w K mg base) : FnG P w K mg base 3 "both_joined" 3 (r_both_joined (subS ec)) := by
  obtain ⟨fd, D⟩ := F.f_both_joined
  exact fn_sound (L := 2) (g := cf N_both_joined) (k := 60) (own := fun _ => false) D F.g_both_joined s_both_joined F.M (tab_cons (ok_look_parting F) (by decide) (tab_cons (ok_closed F) (by decide) tab_nil)) e_both_joined (by decide +kernel) (fun _ _ => rfl) (fun _ _ _ _ _ _ us hl => match us, hl with | [_, _, _], _ => rfl)
theorem ok_parted_table (F : Facts P w K mg base) : FnG P w K mg base 4 "parted_table" 2 (r_parted_table (subS ec)) := by
  obtain ⟨fd, D⟩ := F.f_parted_table
  exact fn_sound (L := 3) (g := cf N_parted_table) (k := 60) (own := fun _ => false) D F.g_parted_table s_parted_table F.M (tab_cons (ok_is_kept F) (by decide) tab_nil) e_parted_table (by decide +kernel) (fun _ _ => rfl) (fun _ _ _ _ _ _ us hl => match us, hl with | [_, _], _ => rfl)
theorem ok_does_lead (F : Facts P w K mg base) : FnG P w K mg base 1 "does_lead" 3 (r_does_lead (subS ec)) := by
  obtain ⟨fd, D⟩ := F.f_does_lead
  exact fn_sound (L := 0) (g := cf N_does_lead) (k := 60) (own := fun _ => false) D F.g_does_lead s_does_lead F.M tab_nil e_does_lead (by decide +kernel) (fun _ _ => rfl) (fun _ _ _ _ _ _ us hl => match us, hl with | [_, _, _], _ => rfl)
theorem ok_look_leading (F : Facts P w K mg base) : FnG P w K mg base 2 "look_leading" 3 (r_look_leading (subS ec)) := by
  obtain ⟨fd, D⟩ := F.f_look_leading
  exact fn_sound (L := 1) (g := cf N_look_leading) (k := 60) (own := fun _ => false) D F.g_look_leading s_look_leading F.M (tab_cons (ok_look_table F) (by decide) tab_nil) e_look_leading (by decide +kernel) (fun _ _ => rfl) (fun _ _ _ _ _ _ us hl => match us, hl with | [_, _, _], _ => rfl)
theorem ok_is_leading (F : Facts P w K mg base) : FnG P w K mg base 3 "is_leading" 3 (r_is_leading (subS ec)) := by
  obtain ⟨fd, D⟩ := F.f_is_leading
  exact fn_sound (L := 2) (g := cf N_is_leading) (k := 60) (own := fun _ => false) D F.g_is_leading s_is_leading F.M (tab_cons (ok_does_lead F) (by decide) (tab_cons (ok_look_leading F) (by decide) tab_nil)) e_is_leading (by decide +kernel) (fun _ _ => rfl) (fun _ _ _ _ _ _ us hl => match us, hl with | [_, _, _], _ => rfl)
theorem ok_can_go_on (F : Facts P w K mg base) : FnG P w K mg base 1 "can_go_on" 3 (r_can_go_on (subS ec)) := by
  obtain ⟨fd, D⟩ := F.f_can_go_on
  exact fn_sound (L := 0) (g := cf N_can_go_on) (k := 60) (own := fun _ => false) D F.g_can_go_on s_can_go_on F.M tab_nil e_can_go_on (by decide +kernel) (fun _ _ => rfl) (fun _ _ _ _ _ _ us hl => match us, hl with | [_, _, _], _ => rfl)
theorem ok_leadings (F : Facts P w K mg base) : FnG P w K mg base 2 "leadings" 2 (r_leadings (subS ec)) := by
  obtain ⟨fd, D⟩ := F.f_leadings
  exact fn_sound (L := 1) (g := cf N_leadings) (k := 60) (own := fun _ => false) D F.g_leadings s_leadings F.M (tab_cons (ok_look_table F) (by decide) (tab_cons (ok_can_go_on F) (by decide) tab_nil)) e_leadings (by decide +kernel) (fun _ _ => rfl) (fun _ _ _ _ _ _ us hl => match us, hl with | [_, _], _ => rfl)
theorem ok_turns (F : Facts P w K mg base) : FnG P w K mg base 3 "turns" 2 (r_turns (subS ec)) := by
  obtain ⟨fd, D⟩ := F.f_turns
  exact fn_sound (L := 2) (g := cf N_turns) (k := 60) (own := fun _ => false) D F.g_turns s_turns F.M (tab_cons (ok_leadings F) (by decide) tab_nil) e_turns (by decide +kernel) (fun _ _ => rfl) (fun _ _ _ _ _ _ us hl => match us, hl with | [_, _], _ => rfl)
theorem ok_image (F : Facts P w K mg base) : FnG P w K mg base 4 "image" 3 (r_image (subS ec)) := by
  obtain ⟨fd, D⟩ := F.f_image
  exact fn_sound (L := 3) (g := cf N_image) (k := 60) (own := fun _ => false) D F.g_image s_image F.M (tab_cons (ok_is_leading F) (by decide) tab_nil) e_image (by decide +kernel) (fun _ _ => rfl) (fun _ _ _ _ _ _ us hl => match us, hl with | [_, _, _], _ => rfl)
theorem ok_parting_of (F : Facts P w K mg base) : FnG P w K mg base 4 "parting_of" 3 (r_parting_of (subS ec)) := by
  obtain ⟨fd, D⟩ := F.f_parting_of
  exact fn_sound (L := 3) (g := cf N_parting_of) (k := 60) (own := fun _ => false) D F.g_parting_of s_parting_of F.M (tab_cons (ok_tidied F) (by decide) (tab_cons (ok_is_leading F) (by decide) tab_nil)) e_parting_of (by decide +kernel) (fun _ _ => rfl) (fun _ _ _ _ _ _ us hl => match us, hl with | [_, _, _], _ => rfl)
theorem ok_grown (F : Facts P w K mg base) : FnG P w K mg base 1 "grown" 2 (r_grown (subS ec)) := by
  obtain ⟨fd, D⟩ := F.f_grown
  exact fn_sound (L := 0) (g := cf N_grown) (k := 60) (own := fun _ => false) D F.g_grown s_grown F.M tab_nil e_grown (by decide +kernel) (fun _ _ => rfl) (fun _ _ _ _ _ _ us hl => match us, hl with | [_, _], _ => rfl)
theorem ok_made_of (F : Facts P w K mg base) : FnG P w K mg base 3 "made_of" 2 (r_made_of (subS ec)) := by
  obtain ⟨fd, D⟩ := F.f_made_of
  exact fn_sound (L := 2) (g := cf N_made_of) (k := 60) (own := fun _ => false) D F.g_made_of s_made_of F.M (tab_cons (ok_look_things F) (by decide) (tab_cons (ok_grown F) (by decide) tab_nil)) e_made_of (by decide +kernel) (fun _ _ => rfl) (fun _ _ _ _ _ _ us hl => match us, hl with | [_, _], _ => rfl)
theorem ok_is_part (F : Facts P w K mg base) : FnG P w K mg base 3 "is_part" 2 (r_is_part (subS ec)) := by
  obtain ⟨fd, D⟩ := F.f_is_part
  exact fn_sound (L := 2) (g := cf N_is_part) (k := 60) (own := fun _ => false) D F.g_is_part s_is_part F.M (tab_cons (ok_look_things F) (by decide) (tab_cons (ok_grown F) (by decide) tab_nil)) e_is_part (by decide +kernel) (fun _ _ => rfl) (fun _ _ _ _ _ _ us hl => match us, hl with | [_, _], _ => rfl)
theorem ok_part_table (F : Facts P w K mg base) : FnG P w K mg base 4 "part_table" 2 (r_part_table (subS ec)) := by
  obtain ⟨fd, D⟩ := F.f_part_table
  exact fn_sound (L := 3) (g := cf N_part_table) (k := 60) (own := fun _ => false) D F.g_part_table s_part_table F.M (tab_cons (ok_is_part F) (by decide) tab_nil) e_part_table (by decide +kernel) (fun _ _ => rfl) (fun _ _ _ _ _ _ us hl => match us, hl with | [_, _], _ => rfl)
theorem ok_power_row (F : Facts P w K mg base) : FnG P w K mg base 3 "power_row" 2 (r_power_row (subS ec)) := by
  obtain ⟨fd, D⟩ := F.f_power_row
  exact fn_sound (L := 2) (g := cf N_power_row) (k := 60) (own := fun _ => false) D F.g_power_row s_power_row F.M (tab_cons (ok_look_things F) (by decide) tab_nil) e_power_row (by decide +kernel) (fun _ _ => rfl) (fun _ _ _ _ _ _ us hl => match us, hl with | [_, _], _ => rfl)
theorem ok_is_term (F : Facts P w K mg base) : FnG P w K mg base 6 "is_term" 2 (r_is_term (subS ec)) := by
  obtain ⟨fd, D⟩ := F.f_is_term
  exact self_sound (L := 0) (g := cf N_is_term) (k := 60) (own := fun _ => false) D F.g_is_term s_is_term F.M tab_nil e_is_term (by decide +kernel) (fun _ _ => rfl) (fun _ _ _ _ _ _ us hl => match us, hl with | [_, _], _ => rfl) 6
theorem ok_look_saying (F : Facts P w K mg base) : FnG P w K mg base 7 "look_saying" 1 (r_look_saying (subS ec)) := by
  obtain ⟨fd, D⟩ := F.f_look_saying
  exact fn_sound (L := 6) (g := cf N_look_saying) (k := 60) (own := fun _ => false) D F.g_look_saying s_look_saying F.M (tab_cons (ok_is_term F) (by decide) tab_nil) e_look_saying (by decide +kernel) (fun _ _ => rfl) (fun _ _ _ _ _ _ us hl => match us, hl with | [_], _ => rfl)
theorem ok_letters_of (F : Facts P w K mg base) : FnG P w K mg base 6 "letters_of" 1 (r_letters_of (subS ec)) := by
  obtain ⟨fd, D⟩ := F.f_letters_of
  exact self_sound (L := 0) (g := cf N_letters_of) (k := 60) (own := fun _ => false) D F.g_letters_of s_letters_of F.M tab_nil e_letters_of (by decide +kernel) (fun _ _ => rfl) (fun _ _ _ _ _ _ us hl => match us, hl with | [_], _ => rfl) 6
theorem ok_worth (F : Facts P w K mg base) : FnG P w K mg base 6 "worth" 3 (r_worth (subS ec)) := by
  obtain ⟨fd, D⟩ := F.f_worth
  exact self_sound (L := 0) (g := cf N_worth) (k := 60) (own := fun _ => false) D F.g_worth s_worth F.M tab_nil e_worth (by decide +kernel) (fun _ _ => rfl) (fun _ _ _ _ _ _ us hl => match us, hl with | [_, _, _], _ => rfl) 6
theorem ok_first_against (F : Facts P w K mg base) : FnG P w K mg base 8 "first_against" 2 (r_first_against (subS ec)) := by
  obtain ⟨fd, D⟩ := F.f_first_against
  exact fn_sound (L := 7) (g := cf N_first_against) (k := 60) (own := fun _ => false) D F.g_first_against s_first_against F.M (tab_cons (ok_look_table F) (by decide) (tab_cons (ok_look_saying F) (by decide) (tab_cons (ok_letters_of F) (by decide) (tab_cons (ok_worth F) (by decide) tab_nil)))) e_first_against (by decide +kernel) (fun _ _ => rfl) (fun _ _ _ _ _ _ us hl => match us, hl with | [_, _], _ => rfl)
theorem ok_holds (F : Facts P w K mg base) : FnG P w K mg base 9 "holds" 2 (r_holds (subS ec)) := by
  obtain ⟨fd, D⟩ := F.f_holds
  exact fn_sound (L := 8) (g := cf N_holds) (k := 60) (own := fun _ => false) D F.g_holds s_holds F.M (tab_cons (ok_first_against F) (by decide) tab_nil) e_holds (by decide +kernel) (fun _ _ => rfl) (fun _ _ _ _ _ _ us hl => match us, hl with | [_, _], _ => rfl)
theorem ok_held (F : Facts P w K mg base) : FnG P w K mg base 10 "held" 2 (r_held (subS ec)) := by
  obtain ⟨fd, D⟩ := F.f_held
  exact fn_sound (L := 9) (g := cf N_held) (k := 60) (own := fun _ => false) D F.g_held s_held F.M (tab_cons (ok_look_table F) (by decide) (tab_cons (ok_look_saying F) (by decide) (tab_cons (ok_holds F) (by decide) tab_nil))) e_held (by decide +kernel) (fun _ _ => rfl) (fun _ _ _ _ _ _ us hl => match us, hl with | [_, _], _ => rfl)
theorem ok_law_cell (F : Facts P w K mg base) : FnG P w K mg base 1 "_law_cell" 2 (r_law_cell (subS ec)) := by
  obtain ⟨fd, D⟩ := F.f_law_cell
  exact fn_sound (L := 0) (g := cf N_law_cell) (k := 60) (own := fun _ => false) D F.g_law_cell s_law_cell F.M tab_nil e_law_cell (by decide +kernel) (fun _ _ => rfl) (fun _ _ _ _ _ _ us hl => match us, hl with | [_, _], _ => rfl)
theorem ok_law_mix (F : Facts P w K mg base) : FnG P w K mg base 2 "_law_mix" 2 (r_law_mix (subS ec)) := by
  obtain ⟨fd, D⟩ := F.f_law_mix
  exact fn_sound (L := 1) (g := cf N_law_mix) (k := 60) (own := fun _ => false) D F.g_law_mix s_law_mix F.M (tab_cons (ok_law_cell F) (by decide) tab_nil) e_law_mix (by decide +kernel) (fun _ _ => rfl) (fun _ _ _ _ _ _ us hl => match us, hl with | [_, _], _ => rfl)
theorem ok_law_draw (F : Facts P w K mg base) : FnG P w K mg base 3 "_law_draw" 3 (r_law_draw (subS ec)) := by
  obtain ⟨fd, D⟩ := F.f_law_draw
  exact fn_sound (L := 2) (g := cf N_law_draw) (k := 60) (own := fun _ => false) D F.g_law_draw s_law_draw F.M (tab_cons (ok_law_mix F) (by decide) tab_nil) e_law_draw (by decide +kernel) (fun _ _ => rfl) (fun _ _ _ _ _ _ us hl => match us, hl with | [_, _, _], _ => rfl)
theorem ok_law_pick (F : Facts P w K mg base) : FnG P w K mg base 4 "_law_pick" 3 (r_law_pick (subS ec)) := by
  obtain ⟨fd, D⟩ := F.f_law_pick
  exact fn_sound (L := 3) (g := cf N_law_pick) (k := 60) (own := fun _ => false) D F.g_law_pick s_law_pick F.M (tab_cons (ok_law_draw F) (by decide) tab_nil) e_law_pick (by decide +kernel) (fun _ _ => rfl) (fun _ _ _ _ _ _ us hl => match us, hl with | [_, _, _], _ => rfl)
theorem ok_law_refusal (F : Facts P w K mg base) : FnG P w K mg base 1 "_law_refusal" 1 (r_law_refusal (subS ec)) := by
  obtain ⟨fd, D⟩ := F.f_law_refusal
  exact fn_sound (L := 0) (g := cf N_law_refusal) (k := 60) (own := fun _ => false) D F.g_law_refusal s_law_refusal F.M tab_nil e_law_refusal (by decide +kernel) (fun _ _ => rfl) (fun _ _ _ _ _ _ us hl => match us, hl with | [_], _ => rfl)
theorem ok_law_one_b (F : Facts P w K mg base) : FnG P w K mg base 11 "_law_one_b" 2 (r_law_one_b (subS ec)) := by
  obtain ⟨fd, D⟩ := F.f_law_one_b
  exact fn_sound (L := 10) (g := cf N_law_one_b) (k := 60) (own := fun _ => false) D F.g_law_one_b s_law_one_b F.M (tab_cons (ok_is_leading F) (by decide) (tab_cons (ok_leadings F) (by decide) (tab_cons (ok_turns F) (by decide) (tab_cons (ok_image F) (by decide) (tab_cons (ok_parting_of F) (by decide) (tab_cons (ok_first_against F) (by decide) (tab_cons (ok_holds F) (by decide) (tab_cons (ok_held F) (by decide) tab_nil)))))))) e_law_one_b (by decide +kernel) (fun _ _ => rfl) (fun _ _ _ _ _ _ us hl => match us, hl with | [_, _], _ => rfl)
theorem ok_law_one (F : Facts P w K mg base) : FnG P w K mg base 12 "_law_one" 2 (r_law_one (subS ec)) := by
  obtain ⟨fd, D⟩ := F.f_law_one
  exact fn_sound (L := 11) (g := cf N_law_one) (k := 60) (own := fun _ => false) D F.g_law_one s_law_one F.M (tab_cons (ok_of_two F) (by decide) (tab_cons (ok_renamed F) (by decide) (tab_cons (ok_times F) (by decide) (tab_cons (ok_is_kept F) (by decide) (tab_cons (ok_together F) (by decide) (tab_cons (ok_both_met F) (by decide) (tab_cons (ok_both_joined F) (by decide) (tab_cons (ok_parted_table F) (by decide) (tab_cons (ok_made_of F) (by decide) (tab_cons (ok_is_part F) (by decide) (tab_cons (ok_part_table F) (by decide) (tab_cons (ok_power_row F) (by decide) (tab_cons (ok_law_one_b F) (by decide) tab_nil))))))))))))) e_law_one (by decide +kernel) (fun _ _ => rfl) (fun _ _ _ _ _ _ us hl => match us, hl with | [_, _], _ => rfl)
theorem ok_law_told (F : Facts P w K mg base) : FnG P w K mg base 13 "_law_told" 2 (r_law_told (subS ec)) := by
  obtain ⟨fd, D⟩ := F.f_law_told
  exact fn_sound (L := 12) (g := cf N_law_told) (k := 60) (own := fun _ => false) D F.g_law_told s_law_told F.M (tab_cons (ok_law_refusal F) (by decide) (tab_cons (ok_law_one F) (by decide) tab_nil)) e_law_told (by decide +kernel) (fun _ _ => rfl) (fun _ _ _ _ _ _ us hl => match us, hl with | [_, _], _ => rfl)
def lawLevel : Nat := 13
theorem tab_law (F : Facts P w K mg base) : TabOk P w K mg base 13 (tabOf (c_law (subS ec))) := (tab_cons (ok_law_pick F) (by decide) (tab_cons (ok_law_told F) (by decide) tab_nil))
end
theorem facts {P : Program} {w : World} {K : PySem.W.Frag} {h : Heap} {mg : Str → Option Value} {base : Heap} (X : K.In h) (G : h.Ns mainGlobals mg) (c : He.SaysD fa fn K) (e : mfB fr gc ec K = true) : Facts P w K mg base where
  M := mf_of X G e
  f_look_table := c.def_ 0 (d := dd 12 "look_table") rfl
  g_look_table := He.glo_ok X G (c.fact 0 (f := .glo "look_table") rfl)
  f_look_thing := c.def_ 1 (d := dd 13 "look_thing") rfl
  g_look_thing := He.glo_ok X G (c.fact 1 (f := .glo "look_thing") rfl)
  f_look_things := c.def_ 2 (d := dd 14 "look_things") rfl
  g_look_things := He.glo_ok X G (c.fact 2 (f := .glo "look_things") rfl)
  f_of_two := c.def_ 3 (d := dd 15 "of_two") rfl
  g_of_two := He.glo_ok X G (c.fact 3 (f := .glo "of_two") rfl)
  f_call := c.def_ 5 (d := dd 17 "call") rfl
  g_call := He.glo_ok X G (c.fact 5 (f := .glo "call") rfl)
  f_renamed := c.def_ 4 (d := dd 16 "renamed") rfl
  g_renamed := He.glo_ok X G (c.fact 4 (f := .glo "renamed") rfl)
  f_times := c.def_ 6 (d := dd 18 "times") rfl
  g_times := He.glo_ok X G (c.fact 6 (f := .glo "times") rfl)
  f_look_parting := c.def_ 7 (d := dd 20 "look_parting") rfl
  g_look_parting := He.glo_ok X G (c.fact 7 (f := .glo "look_parting") rfl)
  f_does_keep := c.def_ 8 (d := dd 21 "does_keep") rfl
  g_does_keep := He.glo_ok X G (c.fact 8 (f := .glo "does_keep") rfl)
  f_is_kept := c.def_ 9 (d := dd 22 "is_kept") rfl
  g_is_kept := He.glo_ok X G (c.fact 9 (f := .glo "is_kept") rfl)
  f_tidied := c.def_ 10 (d := dd 23 "tidied") rfl
  g_tidied := He.glo_ok X G (c.fact 10 (f := .glo "tidied") rfl)
  f_closed := c.def_ 12 (d := dd 25 "closed") rfl
  g_closed := He.glo_ok X G (c.fact 12 (f := .glo "closed") rfl)
  f_together := c.def_ 11 (d := dd 24 "together") rfl
  g_together := He.glo_ok X G (c.fact 11 (f := .glo "together") rfl)
  f_met := c.def_ 13 (d := dd 26 "met") rfl
  g_met := He.glo_ok X G (c.fact 13 (f := .glo "met") rfl)
  f_both_met := c.def_ 14 (d := dd 27 "both_met") rfl
  g_both_met := He.glo_ok X G (c.fact 14 (f := .glo "both_met") rfl)
  f_both_joined := c.def_ 15 (d := dd 28 "both_joined") rfl
  g_both_joined := He.glo_ok X G (c.fact 15 (f := .glo "both_joined") rfl)
  f_parted_table := c.def_ 16 (d := dd 29 "parted_table") rfl
  g_parted_table := He.glo_ok X G (c.fact 16 (f := .glo "parted_table") rfl)
  f_does_lead := c.def_ 17 (d := dd 31 "does_lead") rfl
  g_does_lead := He.glo_ok X G (c.fact 17 (f := .glo "does_lead") rfl)
  f_look_leading := c.def_ 18 (d := dd 32 "look_leading") rfl
  g_look_leading := He.glo_ok X G (c.fact 18 (f := .glo "look_leading") rfl)
  f_is_leading := c.def_ 19 (d := dd 33 "is_leading") rfl
  g_is_leading := He.glo_ok X G (c.fact 19 (f := .glo "is_leading") rfl)
  f_can_go_on := c.def_ 21 (d := dd 35 "can_go_on") rfl
  g_can_go_on := He.glo_ok X G (c.fact 21 (f := .glo "can_go_on") rfl)
  f_leadings := c.def_ 20 (d := dd 34 "leadings") rfl
  g_leadings := He.glo_ok X G (c.fact 20 (f := .glo "leadings") rfl)
  f_turns := c.def_ 22 (d := dd 36 "turns") rfl
  g_turns := He.glo_ok X G (c.fact 22 (f := .glo "turns") rfl)
  f_image := c.def_ 23 (d := dd 37 "image") rfl
  g_image := He.glo_ok X G (c.fact 23 (f := .glo "image") rfl)
  f_parting_of := c.def_ 24 (d := dd 38 "parting_of") rfl
  g_parting_of := He.glo_ok X G (c.fact 24 (f := .glo "parting_of") rfl)
  f_grown := c.def_ 25 (d := dd 40 "grown") rfl
  g_grown := He.glo_ok X G (c.fact 25 (f := .glo "grown") rfl)
  f_made_of := c.def_ 26 (d := dd 41 "made_of") rfl
  g_made_of := He.glo_ok X G (c.fact 26 (f := .glo "made_of") rfl)
  f_is_part := c.def_ 27 (d := dd 42 "is_part") rfl
  g_is_part := He.glo_ok X G (c.fact 27 (f := .glo "is_part") rfl)
  f_part_table := c.def_ 28 (d := dd 43 "part_table") rfl
  g_part_table := He.glo_ok X G (c.fact 28 (f := .glo "part_table") rfl)
  f_power_row := c.def_ 29 (d := dd 44 "power_row") rfl
  g_power_row := He.glo_ok X G (c.fact 29 (f := .glo "power_row") rfl)
  f_is_term := c.def_ 30 (d := dd 48 "is_term") rfl
  g_is_term := He.glo_ok X G (c.fact 30 (f := .glo "is_term") rfl)
  f_look_saying := c.def_ 31 (d := dd 49 "look_saying") rfl
  g_look_saying := He.glo_ok X G (c.fact 31 (f := .glo "look_saying") rfl)
  f_letters_of := c.def_ 32 (d := dd 50 "letters_of") rfl
  g_letters_of := He.glo_ok X G (c.fact 32 (f := .glo "letters_of") rfl)
  f_worth := c.def_ 33 (d := dd 51 "worth") rfl
  g_worth := He.glo_ok X G (c.fact 33 (f := .glo "worth") rfl)
  f_first_against := c.def_ 34 (d := dd 52 "first_against") rfl
  g_first_against := He.glo_ok X G (c.fact 34 (f := .glo "first_against") rfl)
  f_holds := c.def_ 35 (d := dd 53 "holds") rfl
  g_holds := He.glo_ok X G (c.fact 35 (f := .glo "holds") rfl)
  f_held := c.def_ 36 (d := dd 54 "held") rfl
  g_held := He.glo_ok X G (c.fact 36 (f := .glo "held") rfl)
  f_law_cell := c.def_ 37 (d := dd 56 "_law_cell") rfl
  g_law_cell := He.glo_ok X G (c.fact 37 (f := .glo "_law_cell") rfl)
  f_law_mix := c.def_ 38 (d := dd 57 "_law_mix") rfl
  g_law_mix := He.glo_ok X G (c.fact 38 (f := .glo "_law_mix") rfl)
  f_law_draw := c.def_ 39 (d := dd 58 "_law_draw") rfl
  g_law_draw := He.glo_ok X G (c.fact 39 (f := .glo "_law_draw") rfl)
  f_law_pick := c.def_ 40 (d := dd 59 "_law_pick") rfl
  g_law_pick := He.glo_ok X G (c.fact 40 (f := .glo "_law_pick") rfl)
  f_law_refusal := c.def_ 41 (d := dd 60 "_law_refusal") rfl
  g_law_refusal := He.glo_ok X G (c.fact 41 (f := .glo "_law_refusal") rfl)
  f_law_one_b := c.def_ 42 (d := dd 61 "_law_one_b") rfl
  g_law_one_b := He.glo_ok X G (c.fact 42 (f := .glo "_law_one_b") rfl)
  f_law_one := c.def_ 43 (d := dd 62 "_law_one") rfl
  g_law_one := He.glo_ok X G (c.fact 43 (f := .glo "_law_one") rfl)
  f_law_told := c.def_ 44 (d := dd 63 "_law_told") rfl
  g_law_told := He.glo_ok X G (c.fact 44 (f := .glo "_law_told") rfl)
  f_law := c.def_ 45 (d := dd 64 "law") rfl
  g_law := He.glo_ok X G (c.fact 45 (f := .glo "law") rfl)
/-- what is left of the law: its run tells True -/
def Plain : Prop := ∀ ns : List Int, ns.length ≤ 63 → ∃ n, evB (subS ec) (tabOf (c_law (subS ec))) b_law (some (.scr ns) :: some .town :: List.replicate 9 none) 0 = .rt (.bl true) n
theorem ok_law {P : Program} {w : World} {K : PySem.W.Frag} {mg : Str → Option Value} {base : Heap} (F : Facts P w K mg base) (pl : Plain) : ∃ fd, FunD K "law" "law" (defArgs (top 64)) (defBody (top 64)) (defScope (top 64)) [] [] (He.ga K "law") fd ∧ FnOk P w K mg base CX0 (lawLevel + 1) (He.ga K "law") fd ["script"] (fun vs H Q E => ∃ (a : Addr) (ns : List Int), vs = [.ref a] ∧ ns.length ≤ 63 ∧ SqL K H a (ns.map V.int) ∧ ∀ H', Q (.bl true) H') := by
  obtain ⟨fd, D⟩ := F.f_law
  refine ⟨fd, D, ?_⟩
  exact law_sound (L := lawLevel) (g := cf N_law) (k := 60) (own := fun _ => false) (b := b_law) (N' := N_law.drop 2) D rfl s_law (by decide +kernel) F.M (tab_law F) e_law (by decide +kernel) (by decide) (by decide) pl
end Ko
open PySem PySem.W PySem.Calls PyProof.Rows
theorem PySem.Challenge.cw_onerule_k91_whole_two_at_once_holds : PySem.Challenge.rw_onerule_k91_whole_two_at_once.Holds := by
  w_on; o_law
  refine HandSHeadRun.head_any (r := OpenLaw.row PySem.Challenge.rw_onerule_k91_whole_two_at_once) (q := view (OpenLaw.row PySem.Challenge.rw_onerule_k91_whole_two_at_once).prog [64]) (H := Ko.hk) (ob := Ko.ob) (M := 6000) (loose := Ko.names) (d := HandSHeadRun.topDef (OpenLaw.row PySem.Challenge.rw_onerule_k91_whole_two_at_once).prog 64) (kwd := []) Ko.ob_eq
    (by kernel_rfl) (fun s => by kernel_rfl) Ko.run (by kernel_rfl) (by kernel_rfl) (by kernel_rfl) (by rfl) (by first | assumption | decide +kernel) (by decide +kernel) ⟨rfl, rfl, rfl, rfl, rfl, by decide +kernel⟩ ?hw ?hc
  case hw => w_witness2
  case hc =>
    refine L2.walk_ofE (l := PySem.Challenge.rw_onerule_k91_whole_two_at_once) (n := 63) (k := Ko.lawLevel + 1) (x := "script") (CX := L2.CX0) rfl (by decide) (by kernel_rfl) ⟨rfl, by decide, by decide⟩ ?F (fun _ _ _ _ z => z)
    intro w mg fa h Y G hmg0
    obtain ⟨K, KX, c, e⟩ := Y
    have hmg : mg ("law" : PySem.Str) = some (.ref fa) := by
      have e : (HandSHeadRun.topDef (OpenLaw.row PySem.Challenge.rw_onerule_k91_whole_two_at_once).prog 64).name = ("law" : PySem.Str) := by kernel_rfl
      rw [← e]
      exact hmg0
    have F0 : Ko.Facts (PySem.Challenge.rw_onerule_k91_whole_two_at_once).prog w K mg h := Ko.facts KX G c e
    have ea := hmg.symm.trans F0.g_law
    cases ea
    obtain ⟨fd, D⟩ := F0.f_law
    refine ⟨K, fd, (fun vs H Q E => ∃ (a : PySem.Addr) (ns : List Int), vs = [L2.V.ref a] ∧ ns.length ≤ 63 ∧ L2.SqL K H a (ns.map L2.V.int) ∧ ∀ H', Q (.bl true) H'), KX, fun s u => L2.FunD.bindsA (ps := ["script"]) D (fun _ _ _ _ _ _ us hl => match us, hl with | [_], _ => rfl) s [u] rfl, fun H a ns hl _ hS => ⟨a, ns, rfl, hl, hS, fun _ => rfl⟩, fun base _ _ => ?_⟩
    obtain ⟨fd', D', ok⟩ := Ko.ok_law (P := (PySem.Challenge.rw_onerule_k91_whole_two_at_once).prog) (w := w) (base := base) (Ko.facts KX G c e) Ko.plain
    have efd : fd' = fd := L2.Ms.fd_eq D' D
    rw [← efd]
    exact ok
