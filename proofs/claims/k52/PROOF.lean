import PyProof.Rows.All
import Wide.All
import OpenK.AllK
import Wide.FinOn
import PySem.Str
import PyProof.StrLawsTight
import PyProof.StrLawsChain
import HandS.Exc
import HandS.ExcOwn
import HandS.Defaults
import HandS.HeadHook2
import HandS.Head0
import HandS.Head1
import HandS.Head2
import HandS.HeadEnd
import PySem.Challenge.RW_onerule_k52_refused_terms
import HandS.ForMost
import HandS.TryOnly
import HandS.HeadHook1
import HandS.Deep
import HandS.TupAny
import HandS.TupMul
import HandS.SortInts
import HandS.Conv
import HandS.Style
import HandS.Dict
import HandS.TupLen
import KE.SortData
import KE.DataMinMax
import PyProof.Rows.RowBridgeK
import HandS.IsInst
import KE.DataFind
import PyProof.ListStr
import HandS.SetFor
import HandS.TupSets
import HandS.SetTxt0
import HandS.Replace
import KE.KDictZip
import KE.GoesEnum
import KE.GoesZip
import KE.GoesMore
import HandS.Text
import KE.KDictSum
import KE.KDictCopyH
import HandS.ExcIs
import HandS.More
import PyProof.TableCode
import PyProof.Rows.Walk
set_option Elab.async false
set_option linter.all false
set_option maxRecDepth 100000
set_option maxHeartbeats 4000000
/-! # Mv: a small language of values, its evaluator. No program in sight. -/
namespace Mv
open PySem (Str)

/-- a value, all through. town: the law's list of draws (its length is the state's number); scr: the script -/
inductive D where
  | non | bl (b : Bool) | int (i : Int) | str (s : Str)
  | lst (xs : List D) | tup (xs : List D)
  | dic (kvs : List (D × D)) | dit (kvs : List (D × D)) | fdk (kvs : List (D × D)) | fdt (kvs : List (D × D)) | exc (c : Str) | scr (ns : List Int) | town

abbrev iD (ns : List Int) : List D := ns.map D.int

inductive Out (α : Type) where
  | ok (a : α) (n : Nat) | ex (c : Str) (n : Nat) | bad

namespace Out
def bind {α β : Type} (o : Out α) (f : α → Nat → Out β) : Out β := match o with
  | ok a n => f a n
  | ex c n => ex c n
  | bad => bad
@[simp] theorem bind_ok {α β : Type} (a : α) (n : Nat) (f : α → Nat → Out β) : (ok a n).bind f = f a n := rfl
@[simp] theorem bind_ex {α β : Type} (c : Str) (n : Nat) (f : α → Nat → Out β) : (ex c n : Out α).bind f = ex c n := rfl
@[simp] theorem bind_bad {α β : Type} (f : α → Nat → Out β) : (bad : Out α).bind f = bad := rfl
def lift {α : Type} (o : Option α) (n : Nat) : Out α := match o with
  | some a => ok a n
  | none => bad
@[simp] theorem lift_some {α : Type} (a : α) (n : Nat) : lift (some a) n = ok a n := rfl
@[simp] theorem lift_none {α : Type} (n : Nat) : lift (none : Option α) n = bad := rfl
end Out

/-- the longest list -/
def line : Nat := 16777216
def fit (xs : List D) : Option (List D) := if xs.length ≤ line then some xs else none

/-! ### == -/
def strGood (x : Str) : Bool := x.cps.toList.all fun c => decide (c < 55296)
mutual
/-- may be compared: no deeper than k, plain -/
def shp : Nat → D → Bool
  | _, .non => true
  | _, .bl _ => true
  | _, .int _ => true
  | _, .str x => strGood x
  | k + 1, .lst xs => shpAll k xs
  | k + 1, .tup xs => shpAll k xs
  | _, _ => false
def shpAll : Nat → List D → Bool
  | _, [] => true
  | k, x :: xs => shp k x && shpAll k xs
end
mutual
def eqv : D → D → Bool
  | .non, .non => true
  | .bl a, .bl b => a == b
  | .bl a, .int j => (if a then 1 else 0) == j
  | .int i, .bl b => i == (if b then 1 else 0)
  | .int i, .int j => i == j
  | .str x, .str y => x == y
  | .lst xs, .lst ys => eqvAll xs ys
  | .tup xs, .tup ys => eqvAll xs ys
  | _, _ => false
def eqvAll : List D → List D → Bool
  | [], [] => true
  | x :: xs, y :: ys => eqv x y && eqvAll xs ys
  | _, _ => false
end
def deep : Nat := 20
def isEq (x y : D) : Option Bool := if shp deep x && shp deep y then some (eqv x y) else none

/-- the signs of a text, each a text -/
def sgnS (z : Str) : List Str := z.cps.toList.map fun c => ⟨#[c]⟩
/-! ### small pieces -/
def truth : D → Option Bool
  | .non => some false
  | .bl b => some b
  | .int i => some (i != 0)
  | .str x => if x.length ≤ line then some (x.length != 0) else none
  | .lst xs => some (!xs.isEmpty)
  | .tup xs => some (!xs.isEmpty)
  | .scr ns => some (!ns.isEmpty)
  | .dit kvs => some (!kvs.isEmpty)
  | _ => none
def ixN (n : Nat) (i : Int) : Option Nat := if 0 ≤ i then (if i < n then some i.toNat else none) else if -(n : Int) ≤ i then some (i + n).toNat else none
def sIx (n d : Nat) : Option Int → Nat
  | none => d
  | some v => if v < 0 then (v + n).toNat else min v.toNat n
def cut {α : Type} (xs : List α) (lo hi : Option Int) : List α := (xs.drop (sIx xs.length 0 lo)).take (sIx xs.length xs.length hi - sIx xs.length 0 lo)
def flat : D → Bool
  | .non | .bl _ | .int _ | .str _ => true
  | _ => false
def items : D → Option (List D)
  | .lst xs => some xs
  | .tup xs => some xs
  | .str x => if x.length ≤ line then some (x.cps.toList.map fun c => D.str ⟨#[c]⟩) else none
  | _ => none
def range2 (i j : Int) : List D := (List.range (j - i).toNat).map fun k => D.int (i + (k : Nat))
def range (n : Int) : List D := (List.range n.toNat).map fun k => D.int (k : Nat)
def bools : List D → Option (List Bool)
  | [] => some []
  | .bl b :: r => (bools r).map (b :: ·)
  | _ => none
def intsOf : List D → Option (List Int)
  | [] => some []
  | .int i :: r => (intsOf r).map (i :: ·)
  | _ => none
def strsOf : List D → Option (List Str)
  | [] => some []
  | .str i :: r => (strsOf r).map (i :: ·)
  | _ => none
/-- insertion -/
def ins1 {α : Type} (le : α → α → Bool) (a : α) : List α → List α
  | [] => [a]
  | b :: r => if le a b then a :: b :: r else b :: ins1 le a r
def isort {α : Type} (le : α → α → Bool) : List α → List α
  | [] => []
  | a :: r => ins1 le a (isort le r)
def sortI (ns : List Int) : List Int := isort (fun a b => decide (a ≤ b)) ns
/-- each once, the first of each kept -/
def once : List Int → List Int
  | [] => []
  | a :: r => a :: (once r).filter fun b => decide (b ≠ a)
def onceL : List (List Int) → List (List Int)
  | [] => []
  | a :: r => a :: (onceL r).filter fun b => decide (b ≠ a)
def onceS : List Str → List Str
  | [] => []
  | a :: r => a :: (onceS r).filter fun b => decide (b ≠ a)
def sortS (xs : List Str) : List Str := xs.mergeSort fun a b => decide (a.cps.toList ≤ b.cps.toList)
def one (c : Nat) : D := .str ⟨#[c]⟩

mutual
/-- plain, without a list in it -/
def nol : D → Bool
  | .non => true
  | .bl _ => true
  | .int _ => true
  | .str _ => true
  | .tup xs => nolAll xs
  | _ => false
def nolAll : List D → Bool
  | [] => true
  | x :: xs => nol x && nolAll xs
end
mutual
/-- how many lists there are, and how long they are -/
def wD : D → Nat
  | .lst xs => 1 + xs.length + wAll xs
  | .tup xs => wAll xs
  | _ => 0
def wAll : List D → Nat
  | [] => 0
  | x :: xs => wD x + wAll xs
end
/-! ### keys -/
def kK : D → Bool
  | .int _ => true
  | .str _ => true
  | _ => false
def kT : D → Bool
  | .tup xs => xs.all kK
  | _ => false
def dget (kvs : List (D × D)) (k : D) : Option D := (kvs.find? fun kv => eqv kv.1 k).map (·.2)
def dput (kvs : List (D × D)) (k v : D) : List (D × D) := if kvs.any fun kv => eqv kv.1 k then kvs.map (fun kv => if eqv kv.1 k then (kv.1, v) else kv) else kvs ++ [(k, v)]
def isDic : D → Bool
  | .dic _ => true
  | .fdk _ => true
  | .dit _ => true
  | .fdt _ => true
  | _ => false
def dicOf : D → D → Option (List (D × D))
  | .dic kvs, k => if kK k then some kvs else none
  | .fdk kvs, k => if kK k then some kvs else none
  | .dit kvs, k => if kT k then some kvs else none
  | .fdt kvs, k => if kT k then some kvs else none
  | _, _ => none
/-! ### order -/
mutual
/-- may be compared, place by place -/
def alk : D → D → Bool
  | .int _, .int _ => true
  | .str _, .str _ => true
  | .lst xs, .lst ys => alkAll xs ys
  | .tup xs, .tup ys => alkAll xs ys
  | _, _ => false
def alkAll : List D → List D → Bool
  | x :: xs, y :: ys => alk x y && alkAll xs ys
  | [], _ => true
  | _ :: _, [] => true
end
mutual
def ltD : D → D → Bool
  | .int i, .int j => decide (i < j)
  | .str x, .str y => decide (x.cps.toList < y.cps.toList)
  | .lst xs, .lst ys => ltAll xs ys
  | .tup xs, .tup ys => ltAll xs ys
  | _, _ => false
def ltAll : List D → List D → Bool
  | x :: xs, y :: ys => if eqv x y then ltAll xs ys else ltD x y
  | [], _ :: _ => true
  | _, [] => false
end
def leD (x y : D) : Bool := !ltD y x
def isTupNE : D → Bool
  | .tup (_ :: _) => true
  | _ => false
def isLstD : D → Bool
  | .lst _ => true
  | .str _ => true
  | _ => false
def srtOk (xs : List D) : Bool := shpAll deep xs && (xs.all fun a => xs.all fun b => alk a b) && (xs.all isTupNE || xs.all isLstD)
def sortD (xs : List D) : Option D := match intsOf xs with
  | some ns => some (.lst (iD (sortI ns)))
  | none => if srtOk xs then some (.lst (xs.mergeSort leD)) else none
def minDl (x : D) (xs : List D) : D := xs.foldl (fun a b => if ltD b a then b else a) x
def minOf (xs : List D) : Option D := match xs with
  | [] => none
  | x :: r => if shpAll deep (x :: r) && ((x :: r).all fun a => (x :: r).all fun b => alk a b) && (x :: r).all isTupNE then some (minDl x r) else none

def tupsI : List D → Option (List (List Int))
  | [] => some []
  | d :: r => match d with
    | .tup ys => (intsOf ys).bind fun k => (tupsI r).map fun ks => k :: ks
    | _ => none
/-- one value's -/
inductive P1 where
  | len | all_ | any_ | srt | sset | lset | toL | toT | neg | strI | rev | tru | isN | notN | rngL | rngT | not_
  | isStr | isTup | isLst | isDct | isBool | isExc (c : Str) | sum_ | minL | setL | lsetT | ssetS | kys | skys
/-- two values' -/
inductive P2 where
  | add | sub | mul | mod | fdiv | pow | eq | ne | lt | le | gt | ge | in_ | nin | idx | min2 | max2 | index | count | join | dzip | sidx | splt

/-- is an error of this class one of the other -/
abbrev Sub := Str → Str → Bool

def sem1 (S : Sub) (p : P1) (n : Nat) (d : D) : Option D := match p, d with
  | .len, .lst xs => some (.int xs.length)
  | .len, .tup xs => some (.int xs.length)
  | .len, .str x => if x.length ≤ line then some (.int x.length) else none
  | .len, .scr ns => some (.int ns.length)
  | .len, .town => some (.int n)
  | .len, .dic kvs => some (.int kvs.length)
  | .len, .fdk kvs => some (.int kvs.length)
  | .len, .dit kvs => some (.int kvs.length)
  | .len, .fdt kvs => some (.int kvs.length)
  | .all_, .lst xs => (bools xs).map fun bs => .bl (bs.all id)
  | .any_, .lst xs => (bools xs).map fun bs => .bl (bs.any id)
  | .srt, .lst xs => sortD xs
  | .minL, .lst xs => minOf xs
  | .sset, .lst xs => (intsOf xs).bind fun ns => if ns.length ≤ 60 then some (.lst (iD (sortI (once ns)))) else none
  | .sset, .tup xs => (intsOf xs).bind fun ns => if ns.length ≤ 60 then some (.lst (iD (sortI (once ns)))) else none
  | .lset, .lst xs => (intsOf xs).bind fun ns => if ns.length ≤ 60 then some (.int (once ns).length) else none
  | .lset, .tup xs => (intsOf xs).bind fun ns => if ns.length ≤ 60 then some (.int (once ns).length) else none
  | .lsetT, .lst xs => (tupsI xs).bind fun ks => if ks.length ≤ 60 then some (.int (onceL ks).length) else none
  | .ssetS, .lst xs => (strsOf xs).bind fun ys => if ys.length ≤ 60 then some (.lst ((sortS (onceS ys)).map D.str)) else none
  | .kys, .dit kvs => some (.lst (kvs.map (·.1)))
  | .skys, .fdt kvs => if srtOk (kvs.map (·.1)) then some (.lst ((kvs.map (·.1)).mergeSort leD)) else none
  | .toL, .lst xs => some (.lst xs)
  | .toL, .tup xs => some (.lst xs)
  | .toL, .str x => if x.length ≤ line then some (.lst (x.cps.toList.map one)) else none
  | .toT, .lst xs => some (.tup xs)
  | .toT, .tup xs => some (.tup xs)
  | .neg, .int i => some (.int (-i))
  | .strI, .int i => if i.natAbs.log2 < 1920 then some (.str (toString i)) else none
  | .rev, .lst xs => some (.lst xs.reverse)
  | .tru, d => (truth d).map D.bl
  | .isN, .non => some (.bl true)
  | .isN, .bl _ => some (.bl false)
  | .isN, .int _ => some (.bl false)
  | .isN, .str _ => some (.bl false)
  | .isN, .lst _ => some (.bl false)
  | .isN, .tup _ => some (.bl false)
  | .isN, .exc _ => some (.bl false)
  | .notN, .non => some (.bl false)
  | .notN, .bl _ => some (.bl true)
  | .notN, .int _ => some (.bl true)
  | .notN, .str _ => some (.bl true)
  | .notN, .lst _ => some (.bl true)
  | .notN, .tup _ => some (.bl true)
  | .notN, .exc _ => some (.bl true)
  | .rngL, .int i => if i ≤ line ∧ -(2 ^ 62) ≤ i then some (.lst (range i)) else none
  | .rngT, .int i => if i ≤ line ∧ -(2 ^ 62) ≤ i then some (.tup (range i)) else none
  | .not_, .bl b => some (.bl (!b))
  | .isStr, .str _ => some (.bl true)
  | .isStr, .tup _ => some (.bl false)
  | .isTup, .tup _ => some (.bl true)
  | .isTup, .str _ => some (.bl false)
  | .isTup, .non => some (.bl false)
  | .isTup, .bl _ => some (.bl false)
  | .isTup, .int _ => some (.bl false)
  | .isTup, .lst _ => some (.bl false)
  | .isLst, .lst _ => some (.bl true)
  | .isLst, .tup _ => some (.bl false)
  | .isLst, .str _ => some (.bl false)
  | .isLst, .non => some (.bl false)
  | .isLst, .bl _ => some (.bl false)
  | .isLst, .int _ => some (.bl false)
  | .isBool, .bl _ => some (.bl true)
  | .isBool, .lst _ => some (.bl false)
  | .isBool, .tup _ => some (.bl false)
  | .isBool, .str _ => some (.bl false)
  | .isBool, .non => some (.bl false)
  | .isBool, .int _ => some (.bl false)
  | .isDct, .lst _ => some (.bl false)
  | .isDct, .tup _ => some (.bl false)
  | .isDct, .str _ => some (.bl false)
  | .isDct, .non => some (.bl false)
  | .isDct, .bl _ => some (.bl false)
  | .isDct, .int _ => some (.bl false)
  | .isExc c, .exc e => if S e "ValueError" then some (.bl (S e c)) else none
  | .sum_, .lst xs => (intsOf xs).map fun ns => .int ns.sum
  | _, _ => none

def sem2 (p : P2) (n : Nat) (d e : D) : Option D := match p, d, e with
  | .add, .int i, .int j => some (.int (i + j))
  | .add, .str x, .str y => if x.length + y.length ≤ line then some (.str (x ++ y)) else none
  | .add, .lst xs, .lst ys => if xs.length + ys.length ≤ line then some (.lst (xs ++ ys)) else none
  | .add, .tup xs, .tup ys => if xs.length + ys.length ≤ line then some (.tup (xs ++ ys)) else none
  | .sub, .int i, .int j => some (.int (i - j))
  | .mul, .int i, .int j => if (-(2 ^ 64) < i ∧ i < 2 ^ 64) ∨ (-(2 ^ 64) < j ∧ j < 2 ^ 64) then some (.int (i * j)) else none
  | .mul, .lst xs, .int k => if k < 2 ^ 63 ∧ -(2 ^ 63) ≤ k ∧ xs.length * k.toNat ≤ line then some (.lst (List.replicate k.toNat xs).flatten) else none
  | .mul, .tup xs, .int k => if xs ≠ [] ∧ 0 ≤ k ∧ k ≤ 1000 ∧ xs.length ≤ 1000 then some (.tup (List.replicate k.toNat xs).flatten) else none
  | .mod, .int i, .int j => if 0 < j then some (.int (i % j)) else none
  | .fdiv, .int i, .int j => if 0 < j ∧ j < 1073741824 then some (.int (i / j)) else none
  | .pow, .int i, .int j => if 0 ≤ j ∧ j ≤ 1000000 ∧ i.natAbs < 2 ^ 64 then some (.int (i ^ j.toNat)) else none
  | .eq, d, e => (isEq d e).map D.bl
  | .ne, d, e => (isEq d e).map fun b => D.bl (!b)
  | .lt, .int i, .int j => some (.bl (decide (i < j)))
  | .le, .int i, .int j => some (.bl (decide (i ≤ j)))
  | .gt, .int i, .int j => some (.bl (decide (j < i)))
  | .ge, .int i, .int j => some (.bl (decide (j ≤ i)))
  | .lt, .str x, .str y => some (.bl (decide (x.cps.toList < y.cps.toList)))
  | .in_, d, .lst ys => if shp deep d && shpAll deep ys then some (.bl (ys.any fun y => eqv y d)) else none
  | .nin, d, .lst ys => if shp deep d && shpAll deep ys then some (.bl (!ys.any fun y => eqv y d)) else none
  | .in_, d, .tup ys => if flat d && ys.all flat then some (.bl (ys.any fun y => eqv y d)) else if shp deep d && shpAll deep ys then some (.bl (ys.any fun y => eqv y d)) else none
  | .nin, d, .tup ys => if flat d && ys.all flat then some (.bl (!ys.any fun y => eqv y d)) else none
  | .in_, .tup i, .dit kvs => if kT (.tup i) then some (.bl (dget kvs (.tup i)).isSome) else none
  | .nin, .tup i, .dit kvs => if kT (.tup i) then some (.bl (!(dget kvs (.tup i)).isSome)) else none
  | .in_, .str x, .str z => (match x.cps.toList with | [c] => some (.bl (decide (c ∈ z.cps.toList))) | _ => none)
  | .nin, .str x, .str z => (match x.cps.toList with | [c] => some (.bl (!decide (c ∈ z.cps.toList))) | _ => none)
  | .idx, .lst xs, .int i => (ixN xs.length i).bind fun j => xs[j]?
  | .idx, .tup xs, .int i => (ixN xs.length i).bind fun j => xs[j]?
  | .idx, .scr ns, .int i => (ixN ns.length i).bind fun j => (ns[j]?).map D.int
  | .idx, .str z, .int i => if z.length ≤ line then (ixN z.length i).bind fun j => (z.cps.toList[j]?).map one else none
  | .idx, .dic kvs, .str x => (kvs.find? fun kv => match kv.1 with | .str y => decide (y = x) | _ => false).map (·.2)
  | .idx, .dic kvs, .int i => dget kvs (.int i)
  | .idx, .fdk kvs, .int i => dget kvs (.int i)
  | .idx, .fdk kvs, .str i => dget kvs (.str i)
  | .idx, .dit kvs, .tup i => if kT (.tup i) then dget kvs (.tup i) else none
  | .idx, .fdt kvs, .tup i => if kT (.tup i) then dget kvs (.tup i) else none
  | .dzip, .lst ks, .lst vs => (strsOf ks).bind fun ys => if ys.length = vs.length ∧ ys.Nodup ∧ ys.length ≤ 60 then some (.dic ((ys.map D.str).zip vs)) else none
  | .dzip, .str z, .lst vs => if (sgnS z).Nodup ∧ (sgnS z).length ≤ 60 ∧ vs.length ≤ 60 then some (.dic (((sgnS z).map D.str).zip vs)) else none
  | .sidx, .str z, .str x => if z = "xyz" then (if x = "x" then some (.int 0) else if x = "y" then some (.int 1) else if x = "z" then some (.int 2) else none) else none
  | .splt, .str a, .str b => if b.length = 1 ∧ a.length ≤ 1000 then some (.lst ((PySem.Txt.split a b).map D.str)) else none
  | .min2, .int i, .int j => some (.int (if j < i then j else i))
  | .min2, .tup xs, .tup ys => minOf [.tup xs, .tup ys]
  | .max2, .int i, .int j => some (.int (if j > i then j else i))
  | .index, .lst xs, d => if shp deep d && shpAll deep xs then (xs.findIdx? fun y => eqv y d).map fun j => .int (j : Nat) else none
  | .count, .lst xs, d => if shp deep d && shpAll deep xs then some (.int (xs.countP fun y => eqv y d : Nat)) else none
  | _, _, _ => none
/-- a.join(xs) -/
def semJ (a : Str) (d : D) : Option D := match d with
  | .lst xs => (strsOf xs).bind fun ys => if (ys.map (·.length)).sum + ys.length * a.length ≤ line then some (.str (Str.join a ys)) else none
  | _ => none
def partOf (absent : Bool) (d : D) : Option (Option Int) := if absent then some none else match d with
  | .int i => some (some i)
  | _ => none
def semSl (d : D) (l h : Option Int) : Option D := match d with
  | .lst xs => some (.lst (cut xs l h))
  | .tup xs => some (.tup (cut xs l h))
  | .str z => if z.length ≤ line then some (.str ⟨(cut z.cps.toList l h).toArray⟩) else none
  | _ => none

/-! ### the language -/
mutual
inductive ME where
  | bad
  | c (d : D)
  | v (i : Nat)
  | p1 (p : P1) (a : ME)
  | p2 (p : P2) (a b : ME)
  | mt (p : P2) (a b : ME)
  | sl (a lo hi : ME)
  | chn (p q : P2) (a b c : ME)
  | and (a b : ME)
  | or (a b : ME)
  | ite (t a b : ME)
  | call (f : Str) (as : MEs)
  | tup (as : MEs)
  | lst (as : MEs)
  | lc (tg : List Nat) (it : MI) (t e : ME)
  | jn (a b : ME)
  | ms (p : P2) (a b : ME)
  | callF (f : Str) (as : MEs)
  | dge (a k x : ME)
inductive MEs where
  | nil
  | cons (a : ME) (as : MEs)
inductive MI where
  | sq (a : ME)
  | rg (a : ME)
  | ks (a : ME)
  | vs (a : ME)
  | rg2 (a b : ME)
end
/-- a reading whose lists are all new -/
inductive MD where
  | bad
  | chk (e : ME)
  | callD (f : Str) (as : MEs)
  | callN (f : Str) (as : MEs)
  | nls (e : ME)
  | lc (tg : List Nat) (it : MI) (e : MD)
  | tupD (e : MD)
  | idx (e : MD) (k : Int)
  | lst1 (e : MD)
  | ite (t : ME) (a b : MD)
mutual
inductive MS where
  | bad
  | set (i : Nat) (e : ME)
  | mov (i j : Nat)
  | unp (is : List Nat) (e : ME)
  | unl (is : List Nat) (e : ME)
  | par (i j : Nat) (a b : ME)
  | ex (e : ME)
  | app (i : Nat) (e : ME)
  | ext (i : Nat) (e : ME)
  | sto (i : Nat) (k e : ME)
  | swp (i : Nat) (k l a b : ME)
  | ins (i : Nat) (k e : ME)
  | popu (is : List Nat) (i : Nat)
  | tick (i : Nat)
  | if_ (t : ME) (a b : MB)
  | for_ (tg : List Nat) (it : MI) (b : MB)
  | whl (f : Nat) (t : ME) (b : MB)
  | ret (e : ME)
  | rais (c : Str)
  | try_ (b : MB) (i j : Nat)
  | frz (js : List Nat) (s : MS)
  | mv2 (i j : Nat)
  | st2 (i : Nat) (k l e : ME)
  | retD (e : MD)
  | retO (i : Nat)
  | dnw (i : Nat) (b : Bool)
  | dpt (i : Nat) (k e : ME)
  | frd (i : Nat) (s : MS)
  | dup (i j : Nat)
inductive MB where
  | nil
  | cons (s : MS) (b : MB)
  | giv (js : List Nat) (b : MB)
  | spl (i j : Nat) (e : MD) (b : MB)
  | tld (i j k : Nat) (e : MD) (c : Str) (r : ME)
end

def isAbs : ME → Bool
  | .c .non => true
  | _ => false
abbrev Ev := List (Option D)
abbrev Tab := Str → Option (Nat × (List D → Nat → Out D))

def bindT (tg : List Nat) (d : D) (env : Ev) : Option Ev := match tg with
  | [i] => some (env.set i (some d))
  | [i, j] => (match d with | .tup [x, y] => some ((env.set i (some x)).set j (some y)) | _ => none)
  | [i, j, k] => (match d with | .tup [x, y, z] => some (((env.set i (some x)).set j (some y)).set k (some z)) | _ => none)
  | [i, j, k, l] => (match d with | .tup [x, y, z, w] => some ((((env.set i (some x)).set j (some y)).set k (some z)).set l (some w)) | _ => none)
  | _ => none
def wipeD (env : Ev) : List Nat → Ev
  | [] => env
  | v :: vs => (wipeD env vs).set v none

/-- a list of ints -/
def intsL (d : D) : Option D := match d with
  | .lst xs => if (intsOf xs).isSome then some (.lst xs) else none
  | _ => none
/-- what a comprehension gathers -/
def gather (f : D → Nat → Out (Option D)) : List D → Nat → Out (List D)
  | [], n => .ok [] n
  | x :: r, n => match f x n with
    | .ok o n1 => (match gather f r n1 with
      | .ok ys n2 => .ok (match o with | some y => y :: ys | none => ys) n2
      | _ => .bad)
    | _ => .bad

/-- one turn of a comprehension -/
def turnL (bt : D → Option Ev) (t e : Ev → Nat → Out D) (x : D) (n : Nat) : Out (Option D) := match bt x with
  | some env1 => (match t env1 n with
    | .ok (.bl true) n1 => (match e env1 n1 with
      | .ok y n2 => .ok (some y) n2
      | _ => .bad)
    | .ok (.bl false) n1 => .ok none n1
    | _ => .bad)
  | none => .bad
section
variable (S : Sub) (T : Tab)
mutual
def evE : ME → Ev → Nat → Out D
  | .bad, _, _ => .bad
  | .c d, _, n => .ok d n
  | .v i, env, n => (match env[i]? with | some (some d) => .ok d n | _ => .bad)
  | .p1 p a, env, n => (evE a env n).bind fun d n => .lift (sem1 S p n d) n
  | .p2 p a b, env, n => (evE a env n).bind fun d n => (evE b env n).bind fun e n => .lift (sem2 p n d e) n
  | .mt p a b, env, n => (evE a env n).bind fun d n => (match d with
      | .lst _ => (evE b env n).bind fun e n => .lift (sem2 p n d e) n
      | _ => .bad)
  | .sl a lo hi, env, n => (evE a env n).bind fun d n => (evE lo env n).bind fun l n => (Out.lift (partOf (isAbs lo) l) n).bind fun l n => (evE hi env n).bind fun h n => (Out.lift (partOf (isAbs hi) h) n).bind fun h n => .lift (semSl d l h) n
  | .chn p q a b c, env, n => (evE a env n).bind fun d n => (evE b env n).bind fun e n => (Out.lift (sem2 p n d e) n).bind fun z n => (match z with
      | .bl true => (evE c env n).bind fun f n => .lift (sem2 q n e f) n
      | .bl false => .ok (.bl false) n
      | _ => .bad)
  | .and a b, env, n => (evE a env n).bind fun d n => (match d with | .bl true => evE b env n | .bl false => .ok (.bl false) n | _ => .bad)
  | .or a b, env, n => (evE a env n).bind fun d n => (match d with | .bl false => evE b env n | .bl true => .ok (.bl true) n | _ => .bad)
  | .ite t a b, env, n => (evE t env n).bind fun d n => (match d with | .bl true => evE a env n | .bl false => evE b env n | _ => .bad)
  | .call f as, env, n => (match T f with
      | some (k, run) => (evA as env n).bind fun ds n => if ds.length = k then run ds n else .bad
      | none => .bad)
  | .tup as, env, n => (evA as env n).bind fun ds n => .lift ((fit ds).map D.tup) n
  | .lst as, env, n => (evA as env n).bind fun ds n => .lift ((fit ds).map D.lst) n
  | .lc tg it t e, env, n => (evI it env n).bind fun xs n => (gather (turnL (fun x => bindT tg x (wipeD env tg)) (evE t) (evE e)) xs n).bind fun ys n => .ok (.lst ys) n
  | .jn a b, env, n => (evE a env n).bind fun d n => (match d with
      | .str x => (evE b env n).bind fun e n => .lift (semJ x e) n
      | _ => .bad)
  | .ms p a b, env, n => (evE a env n).bind fun d n => (match d with
      | .str _ => (evE b env n).bind fun e n => .lift (sem2 p n d e) n
      | _ => .bad)
  | .callF f as, env, n => (match T f with
      | some (k, run) => (evA as env n).bind fun ds n => if ds.length = k then (run ds n).bind fun d n => .lift (intsL d) n else .bad
      | none => .bad)
  | .dge a k x, env, n => (evE a env n).bind fun d n => if isDic d then (evE k env n).bind fun k n => (evE x env n).bind fun x n => .lift ((dicOf d k).map fun kvs => (dget kvs k).getD x) n else .bad
def evA : MEs → Ev → Nat → Out (List D)
  | .nil, _, n => .ok [] n
  | .cons a as, env, n => (evE a env n).bind fun d n => (evA as env n).bind fun ds n => .ok (d :: ds) n
def evI : MI → Ev → Nat → Out (List D)
  | .sq a, env, n => (evE a env n).bind fun d n => .lift (items d) n
  | .rg a, env, n => (evE a env n).bind fun d n => (match d with | .int i => if i ≤ line ∧ -(2 ^ 62) ≤ i then .ok (range i) n else .bad | _ => .bad)
  | .rg2 a b, env, n => (evE a env n).bind fun d n => (evE b env n).bind fun e n => (match d, e with | .int i, .int j => if -(2 ^ 61) ≤ i ∧ i ≤ line ∧ -(2 ^ 61) ≤ j ∧ j ≤ line ∧ j - i ≤ line then .ok (range2 i j) n else .bad | _, _ => .bad)
  | .ks a, env, n => (evE a env n).bind fun d n => (match d with | .fdk kvs => if kvs.length ≤ line then .ok (kvs.map (·.1)) n else .bad | _ => .bad)
  | .vs a, env, n => (evE a env n).bind fun d n => (match d with | .fdk kvs => if kvs.length ≤ line then .ok (kvs.map (·.2)) n else .bad | _ => .bad)
end

/-- one turn of a comprehension of new things -/
def turnD (bt : D → Option Ev) (e : Ev → Nat → Out D) (x : D) (n : Nat) : Out (Option D) := match bt x with
  | some env1 => (match e env1 n with
      | .ok y n2 => .ok (some y) n2
      | _ => .bad)
  | none => .bad
def evD : MD → Ev → Nat → Out D
  | .bad, _, _ => .bad
  | .chk e, env, n => (evE S T e env n).bind fun d n => if nol d then .ok d n else .bad
  | .callD f as, env, n => evE S T (.call f as) env n
  | .callN f as, env, n => (match T f with
      | some (k, run) => (evA S T as env n).bind fun ds n => if ds.length = k ∧ nolAll ds = true then run ds n else .bad
      | none => .bad)
  | .nls e, env, n => (evE S T e env n).bind fun d n => (match d with | .lst xs => if nolAll xs then .ok (.lst xs) n else .bad | _ => .bad)
  | .lc tg it e, env, n => (evI S T it env n).bind fun xs n => (gather (turnD (fun x => bindT tg x (wipeD env tg)) (evD e)) xs n).bind fun ys n => .ok (.lst ys) n
  | .tupD e, env, n => (evD e env n).bind fun d n => (match d with | .lst xs => .ok (.tup xs) n | _ => .bad)
  | .idx e k, env, n => (evD e env n).bind fun d n => (match d with | .tup _ => .lift (sem2 .idx n d (.int k)) n | _ => .bad)
  | .lst1 e, env, n => (evD e env n).bind fun d n => .ok (.lst [d]) n
  | .ite t a b, env, n => (evE S T t env n).bind fun d n => (match d with | .bl true => evD a env n | .bl false => evD b env n | _ => .bad)
/-- a statement's end -/
inductive SO where
  | nx (env : Ev) (n : Nat) | rt (d : D) (n : Nat) | ex (c : Str) (n : Nat) (env : Ev) | bad
def SO.of {α : Type} (env : Ev) (o : Out α) (f : α → Nat → SO) : SO := match o with
  | .ok a n => f a n
  | .ex c n => .ex c n env
  | .bad => .bad
def SO.then (o : SO) (f : Ev → Nat → SO) : SO := match o with
  | .nx env n => f env n
  | .rt d n => .rt d n
  | .ex c n env => .ex c n env
  | .bad => .bad
def ofO {α : Type} (o : Option α) (f : α → SO) : SO := match o with
  | some a => f a
  | none => .bad
/-- a loop over items -/
def forL (tg : List Nat) (b : Ev → Nat → SO) : List D → Ev → Nat → SO
  | [], env, n => .nx env n
  | x :: r, env, n => ofO (bindT tg x env) fun env1 => (b env1 n).then fun env2 n2 => forL tg b r env2 n2
def whlL (t : Ev → Nat → Out D) (b : Ev → Nat → SO) : Nat → Ev → Nat → SO
  | 0, _, _ => .bad
  | f + 1, env, n => SO.of env (t env n) fun d n => match d with
    | .bl true => (b env n).then fun env2 n2 => whlL t b f env2 n2
    | .bl false => .nx env n
    | _ => .bad
def getL (env : Ev) (i : Nat) : Option (List D) := match env[i]? with
  | some (some (.lst xs)) => some xs
  | _ => none
def getM (env : Ev) (i : Nat) (j : Nat) : Option (List D) := (getL env i).bind fun xs => match xs[j]? with
  | some (.lst ys) => some ys
  | _ => none
def putL (env : Ev) (i : Nat) (xs : List D) : Ev := env.set i (some (.lst xs))
mutual
def evS : MS → Ev → Nat → SO
  | .bad, _, _ => .bad
  | .set i e, env, n => SO.of env (evE S T e env n) fun d n => .nx (env.set i (some d)) n
  | .mov i j, env, n => (match env[j]? with | some (some d) => .nx ((env.set i (some d)).set j none) n | _ => .bad)
  | .unp is e, env, n => SO.of env (evE S T e env n) fun d n => ofO (bindT is d env) fun env => .nx env n
  | .unl is e, env, n => SO.of env (evE S T e env n) fun d n => (match d with | .lst xs => ofO (bindT is (.tup xs) env) fun env => .nx env n | _ => .bad)
  | .par i j a b, env, n => SO.of env (evE S T a env n) fun d n => SO.of env (evE S T b env n) fun e n => .nx ((env.set i (some d)).set j (some e)) n
  | .ex e, env, n => SO.of env (evE S T e env n) fun _ n => .nx env n
  | .app i e, env, n => ofO (getL env i) fun xs => SO.of env (evE S T e env n) fun d n => if xs.length < line then .nx (putL env i (xs ++ [d])) n else .bad
  | .ext i e, env, n => ofO (getL env i) fun xs => SO.of env (evE S T e env n) fun d n => (match d with
      | .lst ys => if xs.length + ys.length ≤ line then .nx (putL env i (xs ++ ys)) n else .bad
      | _ => .bad)
  | .sto i k e, env, n => SO.of env (evE S T e env n) fun d n => ofO (getL env i) fun xs => SO.of env (evE S T k env n) fun k n => (match k with
      | .int k => ofO (ixN xs.length k) fun j => .nx (putL env i (xs.set j d)) n
      | _ => .bad)
  | .swp i k l a b, env, n => SO.of env (evE S T a env n) fun x n => SO.of env (evE S T b env n) fun y n => ofO (getL env i) fun xs => SO.of env (evE S T k env n) fun k n => (match k with
      | .int k => ofO (ixN xs.length k) fun j => SO.of (putL env i (xs.set j x)) (evE S T l (putL env i (xs.set j x)) n) fun l n => (match l with
        | .int l => ofO (ixN xs.length l) fun j2 => .nx (putL env i ((xs.set j x).set j2 y)) n
        | _ => .bad)
      | _ => .bad)
  | .ins i k e, env, n => ofO (getL env i) fun xs => SO.of env (evE S T k env n) fun k n => SO.of env (evE S T e env n) fun d n => (match k with
      | .int k => if 0 ≤ k ∧ k ≤ xs.length ∧ xs.length < line then .nx (putL env i (xs.take k.toNat ++ d :: xs.drop k.toNat)) n else .bad
      | _ => .bad)
  | .popu is i, env, n => ofO (getL env i) fun xs => (match xs.getLast? with
      | some d => ofO (bindT is d (putL env i xs.dropLast)) fun env => .nx env n
      | none => .bad)
  | .tick i, env, n => (match env[i]? with | some (some .town) => if n < line then .nx env (n + 1) else .bad | _ => .bad)
  | .if_ t a b, env, n => SO.of env (evE S T t env n) fun d n => (match d with | .bl true => evB a env n | .bl false => evB b env n | _ => .bad)
  | .for_ tg it b, env, n => SO.of env (evI S T it env n) fun xs n => forL tg (evB b) xs env n
  | .whl f t b, env, n => whlL (evE S T t) (evB b) f env n
  | .ret e, env, n => SO.of env (evE S T e env n) fun d n => .rt d n
  | .rais c, env, n => .ex c n env
  | .try_ b i j, env, n => (match evB b env n with
      | .ex c n env => if S c "RuleError" then .nx ((env.set i (some (.exc c))).set j none) n else .bad
      | o => o)
  | .frz js s, env, n => (match evS s env n with
      | .nx env n => .nx (wipeD env js) n
      | .ex c n env => .ex c n (wipeD env js)
      | o => o)
  | .mv2 i j, env, n => ofO (getL env i) fun xs => ofO (getL env j) fun ys => if xs.length < line then .nx ((putL env i (xs ++ [.lst ys])).set j none) n else .bad
  | .st2 i k l e, env, n => SO.of env (evE S T e env n) fun d n => ofO (getL env i) fun xs => SO.of env (evE S T k env n) fun k n => (match k with
      | .int k => ofO (ixN xs.length k) fun a => SO.of env (evE S T l env n) fun l n => (match l with
        | .int l => ofO (getM env i a) fun ys => ofO (ixN ys.length l) fun b => .nx (putL env i (xs.set a (.lst (ys.set b d)))) n
        | _ => .bad)
      | _ => .bad)
  | .retD e, env, n => SO.of env (evD S T e env n) fun d n => .rt d n
  | .dnw i b, env, n => .nx (env.set i (some (if b then .dit [] else .dic []))) n
  | .dpt i k e, env, n => (match env[i]? with
      | some (some (.dic kvs)) => SO.of env (evE S T e env n) fun d n => SO.of env (evE S T k env n) fun k n => if kK k = true ∧ kvs.length < line then .nx (env.set i (some (.dic (dput kvs k d)))) n else .bad
      | some (some (.dit kvs)) => SO.of env (evE S T e env n) fun d n => SO.of env (evE S T k env n) fun k n => if kT k = true ∧ kvs.length < line then .nx (env.set i (some (.dit (dput kvs k d)))) n else .bad
      | _ => .bad)
  | .dup i j, env, n => (match env[i]?, env[j]? with
      | some (some (.dit kvs)), some (some (.dit more)) => if kvs.length + more.length ≤ line ∧ i ≠ j ∧ kvs ≠ [] then .nx (env.set i (some (.dit (more.foldl (fun acc kv => dput acc kv.1 kv.2) kvs)))) n else .bad
      | _, _ => .bad)
  | .frd i s, env, n => (match env[i]? with
      | some (some (.dic kvs)) => (match evS s (env.set i (some (.fdk kvs))) n with
        | .nx env n => .nx (env.set i none) n
        | .ex c n env => .ex c n (env.set i none)
        | o => o)
      | some (some (.dit kvs)) => (match evS s (env.set i (some (.fdt kvs))) n with
        | .nx env n => .nx (env.set i none) n
        | .ex c n env => .ex c n (env.set i none)
        | o => o)
      | _ => .bad)
  | .retO i, env, n => ofO (getL env i) fun xs => if nolAll xs then .rt (.lst xs) n else .bad
def evB : MB → Ev → Nat → SO
  | .nil, env, n => .nx env n
  | .cons s b, env, n => (evS s env n).then fun env n => evB b env n
  | .giv js b, env, n => (match evB b env n with
      | .nx env n => .nx (wipeD env js) n
      | .ex c n env => .ex c n (wipeD env js)
      | o => o)
  | .spl i j e b, env, n => SO.of env (evD S T e env n) fun d n => (match T "_law_copy", T "_law_spoil" with
      | some (1, run), some (1, _) => if i < env.length ∧ shp deep d = true ∧ wD d ≤ 1000000 then SO.of (env.set i none) (run [d] n) fun d' n => evB b ((env.set i none).set j (some d')) n else .bad
      | _, _ => .bad)
  | .tld i j k e c r, env, n => (match env[j]? with
      | some (some .non) => if env.length ≤ i then .bad else (match evD S T e env n with
        | .ok d n => .rt (.tup [.str c, d]) n
        | .ex x n => if S x "RuleError" then (match evE S T r (((env.set i none).set j (some (.exc x))).set k none) n with
            | .ok d n => if nol d then .rt d n else .bad
            | .ex c n => .bad
            | .bad => .bad) else .bad
        | .bad => .bad)
      | _ => .bad)
end
/-- a def: so many names, its body -/
def evF (size : Nat) (b : MB) (ds : List D) (n : Nat) : Out D := match evB S T b (ds.map some ++ List.replicate (size - ds.length) none) n with
  | .nx _ n => .ok .non n
  | .rt d n => .ok d n
  | .ex c n _ => .ex c n
  | .bad => .bad
end
/-! ### tables of defs -/
structure En where
  f : Str
  k : Nat
  run : List D → Nat → Out D
def tabOf : List En → Tab
  | [] => fun _ => none
  | e :: r => fun f => if f = e.f then some (e.k, e.run) else tabOf r f
/-- a def that calls itself: run by run -/
def selfRun (S : Sub) (f : Str) (k : Nat) (size : Nat) (b : MB) (r : List En) : Nat → List D → Nat → Out D
  | 0 => fun _ _ => .bad
  | m + 1 => evF S (tabOf (⟨f, k, selfRun S f k size b r m⟩ :: r)) size b
/-- turns of a while that are looked at -/
def turnsW : Nat := 10000
def subS (ec : List Str) : Sub := fun c x => decide (c ∈ ec) && (decide (x = c) || decide (x = ("RuleError" : Str)) || decide (x = ("ValueError" : Str)))
end Mv

namespace L2.Ms
open PySem PySem.Spec PyProof.Rows Mv
def excCB (K : PySem.W.Frag) (D : Addr) : Bool := He.eqO (PySem.W.findIn K (.ref D) "__getattribute__") (some (some (.builtin "BaseException.__getattribute__"))) && He.eqO (PySem.W.findIn K (.ref D) "__getattr__") (some none) &&
  decide (PySem.W.subIn K (.ref D) (.type "BaseException") = some true) && PySem.W.hasDictIn K D && He.eqO (PySem.W.findIn K (.ref D) "__class__") (some (some (.builtin "object.__class__"))) &&
  He.eqO (PySem.W.specialIn K (.builtin "object.__class__") "__get__") (some (some (.builtin "getset_descriptor.__get__"))) && decide (PySem.W.takesIn K (.builtin "object.__class__") = some true) && decide (PySem.W.mroIn K D (.type "object") = some true)
def conB : Str × D → PySem.W.Frag → Bool
  | (x, .int i), K => (He.Fa.int x i).ok K
  | (x, .str s), K => (He.Fa.str x s).ok K
  | _, _ => false
def mfB (fr : List Str) (gc : List (Str × D)) (ec : List Str) (K : PySem.W.Frag) : Bool := (fr.all fun x => (He.Fa.free x).ok K) && (gc.all fun q => conB q K) &&
  (ec.all fun c => (He.Fa.glo c).ok K && excCB K (He.ga K c) && (He.Fa.exc c).ok K && (ec.all fun x => decide (PySem.W.kitOne K (.ref (He.ga K c)) (.ref (He.ga K x)) = some (subS ec c x))) &&
    decide (PySem.W.kitOne K (.ref (He.ga K c)) (.type "ValueError") = some (subS ec c "ValueError")) && decide (PySem.W.exmOne K (.ref (He.ga K c)) (.ref (He.ga K "RuleError")) = some (subS ec c "RuleError")))
abbrev Al : Type := He.AlD × Bool
def obsM (n : Nat) (fa : List He.Fa) (fn : List He.DefD) (ex : PySem.W.Frag → Bool) (g : Addr → Option Obj) : Al := (He.obsD fa fn (He.frG g (He.asD g n)), ex (He.frG g (He.asD g n)))
def hookM (n : Nat) (fa : List He.Fa) (fn : List He.DefD) (ex : PySem.W.Frag → Bool) : PySem.W.Hook where
  α := Al
  obs := fun s => obsM n fa fn ex s.heap.get?
  val := fun _ => (He.valD fn, true)
  says := fun _ h => ∃ K : PySem.W.Frag, K.In h ∧ He.SaysD fa fn K ∧ ex K = true
  of := fun _ _ e => ⟨_, He.frG_in, congrArg (fun z : Al => z.1) e, congrArg (fun z : Al => z.2) e⟩
  keeps := fun _ _ _ ⟨K, hK, c⟩ k => ⟨K, PySem.W.Frag.In.keeps hK k, c⟩
theorem obsM_eq {n : Nat} {fa : List He.Fa} {fn : List He.DefD} {ex : PySem.W.Frag → Bool} {g : Addr → Option Obj} {s : Shared} (h : ∀ a, g a = s.heap.get? a) : obsM n fa fn ex g = (hookM n fa fn ex).obs s := by
  have e : g = s.heap.get? := funext h
  rw [e] <;> rfl
end L2.Ms

namespace Ko
open PySem PySem.Spec PyProof.Rows L2 L2.Ms Mv
def ec : List Str := ["RuleError", "BadTable", "BadThing", "BadParting", "BadSaying", "BadLeading", "BadNumber", "TooGreat", "BadText"]
def top (i : Nat) : Stmt := PySem.Challenge.pw_onerule_k52_refused_terms.main.body.getD i (.Pass ⟨0, 0, 0, 0⟩)
def dd (i : Nat) (x : Str) : He.DefD := ⟨(x, none), x, x, defArgs (top i), defBody (top i), defScope (top i), [], []⟩
def fn : List He.DefD := ([dd 12 "look_table", dd 16 "is_term", dd 17 "letters_of", dd 18 "worth", dd 19 "term_text", dd 23 "all_things", dd 24 "look_letters", dd 25 "worths", dd 26 "row_for", dd 27 "look_small", dd 28 "both_of", dd 29 "least_texts", dd 30 "made_rows", dd 31 "least_term", dd 32 "is_rich", dd 35 "all_terms", dd 36 "look_deep", dd 37 "groups", dd 38 "held_many", dd 39 "first_parting", dd 40 "holds_more", dd 42 "_law_cell", dd 43 "_law_mix", dd 44 "_law_draw", dd 45 "_law_pick", dd 46 "_law_refusal", dd 47 "_law_table", dd 48 "_law_named", dd 49 "_law_copy", dd 50 "_law_spoil"] : List He.DefD) ++ ([dd 51 "_law_one", dd 52 "_law_told", dd 53 "law"] : List He.DefD)
def fa : List He.Fa := ([.glo "look_table", .glo "is_term", .glo "letters_of", .glo "worth", .glo "term_text", .glo "all_things", .glo "look_letters", .glo "worths", .glo "row_for", .glo "look_small", .glo "both_of", .glo "least_texts", .glo "made_rows", .glo "least_term", .glo "is_rich", .glo "all_terms", .glo "look_deep", .glo "groups", .glo "held_many", .glo "first_parting", .glo "holds_more", .glo "_law_cell", .glo "_law_mix", .glo "_law_draw", .glo "_law_pick", .glo "_law_refusal", .glo "_law_table", .glo "_law_named", .glo "_law_copy", .glo "_law_spoil"] : List He.Fa) ++ ([.glo "_law_one", .glo "_law_told", .glo "law"] : List He.Fa)
def names : List Str := (["RuleError", "BadTable", "BadThing", "BadParting", "BadSaying", "BadLeading", "BadNumber", "TooGreat", "BadText", "MOST", "look_table", "LETTERS", "MOST_DEEP", "is_term", "letters_of", "worth", "term_text", "MOST_LETTERS", "MOST_ROWS", "all_things", "look_letters", "worths", "row_for", "look_small", "both_of", "least_texts", "made_rows", "least_term", "is_rich", "MOST_HELD"] : List Str) ++ (["all_terms", "look_deep", "groups", "held_many", "first_parting", "holds_more", "_law_cell", "_law_mix", "_law_draw", "_law_pick", "_law_refusal", "_law_table", "_law_named", "_law_copy", "_law_spoil", "_law_one", "_law_told"] : List Str)
def fr : List Str := (["ValueError", "all", "any", "dict", "isinstance", "len", "list", "max", "min", "range", "set", "sorted", "str", "sum", "tuple", "zip"] : List Str)
def gc : List (Str × D) := ([("MOST", .int 6), ("LETTERS", .str "xyz"), ("MOST_DEEP", .int 3), ("MOST_LETTERS", .int 3), ("MOST_ROWS", .int 300), ("MOST_HELD", .int 2)] : List (Str × D))
abbrev R : PySem.W.OpenRow := PySem.W.OpenLaw.row PySem.Challenge.rw_onerule_k52_refused_terms
abbrev hk : PySem.W.Hook := hookM 5 fa fn (mfB fr gc ec)
def ob (s : PySem.W.SharedT) : Al := obsM 5 fa fn (mfB fr gc ec) (HandSHeadRun.getT s)
theorem ob_eq (s : PySem.W.SharedT) : ob s = hk.obs s.abs := obsM_eq (HandSHeadRun.getT_eq s)
theorem run (w : World) : HandSHeadRun.RunEq R (PySem.W.view R.prog [53]) hk ob 6000 names w := by
  intro os
  kernel_rfl
end Ko

/-! # Ms: the small language is told by the program's own run -/
namespace L2.Ms
open PySem PySem.Spec PyProof.Rows Mv

def Le (F G : Hp) : Prop := ∀ a o, F a = some o → G a = some o
theorem Le.rfl {F : Hp} : Le F F := fun _ _ e => e
theorem Le.trans {F G H : Hp} (a : Le F G) (b : Le G H) : Le F H := fun x o e => b x o (a x o e)
theorem Le.grow {F : Hp} {p : Addr} {o : HO} (h : F p = none) : Le F (upd F p o) := fun a u e => by rw [upd_ne (ne_of_none e h)]; exact e
theorem Le.both {F G : Hp} {p : Addr} {o : HO} (l : Le F G) : Le (upd F p o) (upd G p o) := fun a u e => by
  by_cases h : a = p
  · subst h; rw [upd_same] at e ⊢; exact e
  · rw [upd_ne h] at e ⊢; exact l a u e
theorem Le.non {F G : Hp} (l : Le F G) {a : Addr} (h : G a = none) : F a = none := by
  cases e : F a with
  | none => rfl
  | some o => rw [l a o e] at h; cases h
theorem Le.has {F G : Hp} (l : Le F G) {a : Addr} (h : F a ≠ none) : G a ≠ none := fun z => h (l.non z)
theorem Le.right {F G : Hp} {p : Addr} {o : HO} (l : Le F G) (h : F p = none) : Le F (upd G p o) := fun a u e => by rw [upd_ne (ne_of_none e h)]; exact l a u e

/-- an error of the class c of the module -/
def ExcAt (K : PySem.W.Frag) (c : Str) (a : Addr) (h : Heap) : Prop := ∃ o vs, h.get? a = some o ∧ o.cls = .ref (He.ga K c) ∧ o.dict = none ∧ o.data = .fields vs
def exO (K : PySem.W.Frag) (c : Str) (a : Addr) : HO := .ext (ExcAt K c a)

/-- what is the same all through a law: the written part, the town's place -/
structure Cn where
  K : PySem.W.Frag
  pt : Option Addr

mutual
inductive Rep (z : Cn) (F : Hp) : V → D → Prop
  | non : Rep z F .non .non
  | bl (b : Bool) : Rep z F (.bl b) (.bl b)
  | int (i : Int) : Rep z F (.int i) (.int i)
  | str (x : Str) : Rep z F (.str x) (.str x)
  | lst {a : Addr} {xs : List V} {ds : List D} : F a = some (.lst xs) → RepL z F xs ds → Rep z F (.ref a) (.lst ds)
  | tup {a : Addr} {xs : List V} {ds : List D} : F a = some (.tup xs) → RepL z F xs ds → Rep z F (.ref a) (.tup ds)
  | exc {a : Addr} {c : Str} : F a = some (exO z.K c a) → Rep z F (.ref a) (.exc c)
  | scr {a : Addr} {ns : List Int} : SqL z.K F a (ns.map V.int) → Rep z F (.ref a) (.scr ns)
  | town {a : Addr} : z.pt = some a → Rep z F (.ref a) .town
  | dic {a : Addr} {kvs : List (Key × V)} {ds : List (D × D)} : F a = some (.dK kvs) → RepK z F kvs ds → Rep z F (.ref a) (.dic ds)
  | dit {a : Addr} {kvs : List (List Key × V)} {ds : List (D × D)} : F a = some (.dT kvs) → RepT z F kvs ds → Rep z F (.ref a) (.dit ds)
  | fdk {a : Addr} {o : Obj} {kvs : List (Key × V)} {ds : List (D × D)} : F a = some (.frz o (.dK kvs)) → RepK z F kvs ds → Rep z F (.ref a) (.fdk ds)
  | fdt {a : Addr} {o : Obj} {kvs : List (List Key × V)} {ds : List (D × D)} : F a = some (.frz o (.dT kvs)) → RepT z F kvs ds → Rep z F (.ref a) (.fdt ds)
inductive RepL (z : Cn) (F : Hp) : List V → List D → Prop
  | nil : RepL z F [] []
  | cons {v : V} {vs : List V} {d : D} {ds : List D} : Rep z F v d → RepL z F vs ds → RepL z F (v :: vs) (d :: ds)
inductive RepT (z : Cn) (F : Hp) : List (List Key × V) → List (D × D) → Prop
  | nil : RepT z F [] []
  | cons {k : List Key} {v : V} {kvs : List (List Key × V)} {kd : List D} {d : D} {ds : List (D × D)} : RepL z F (k.map kV) kd → kd.all kK = true → Rep z F v d → RepT z F kvs ds → RepT z F ((k, v) :: kvs) ((.tup kd, d) :: ds)
inductive RepK (z : Cn) (F : Hp) : List (Key × V) → List (D × D) → Prop
  | nil : RepK z F [] []
  | cons {k : Key} {v : V} {kvs : List (Key × V)} {kd d : D} {ds : List (D × D)} : Rep z F (kV k) kd → Rep z F v d → RepK z F kvs ds → RepK z F ((k, v) :: kvs) ((kd, d) :: ds)
end
theorem sqL_mono {K : PySem.W.Frag} {F G : Hp} (l : Le F G) {a : Addr} {xs : List V} (h : SqL K F a xs) : SqL K G a xs := by
  rcases h with (h | ⟨o, h⟩) | h
  · exact .inl (.inl (l _ _ h))
  · exact .inl (.inr ⟨o, l _ _ h⟩)
  · exact .inr h
mutual
theorem Rep.mono {z : Cn} {F G : Hp} (l : Le F G) : ∀ {v : V} {d : D}, Rep z F v d → Rep z G v d
  | _, _, .non => .non
  | _, _, .bl b => .bl b
  | _, _, .int i => .int i
  | _, _, .str x => .str x
  | _, _, .lst e r => .lst (l _ _ e) (RepL.mono l r)
  | _, _, .tup e r => .tup (l _ _ e) (RepL.mono l r)
  | _, _, .exc e => .exc (l _ _ e)
  | _, _, .scr e => .scr (sqL_mono l e)
  | _, _, .town e => .town e
  | _, _, .dic e r => .dic (l _ _ e) (RepK.mono l r)
  | _, _, .dit e r => .dit (l _ _ e) (RepT.mono l r)
  | _, _, .fdk e r => .fdk (l _ _ e) (RepK.mono l r)
  | _, _, .fdt e r => .fdt (l _ _ e) (RepT.mono l r)
theorem RepT.mono {z : Cn} {F G : Hp} (l : Le F G) : ∀ {v : List (List Key × V)} {d : List (D × D)}, RepT z F v d → RepT z G v d
  | _, _, .nil => .nil
  | _, _, .cons k a h t => .cons (RepL.mono l k) a (Rep.mono l h) (RepT.mono l t)
theorem RepL.mono {z : Cn} {F G : Hp} (l : Le F G) : ∀ {v : List V} {d : List D}, RepL z F v d → RepL z G v d
  | _, _, .nil => .nil
  | _, _, .cons h t => .cons (Rep.mono l h) (RepL.mono l t)
theorem RepK.mono {z : Cn} {F G : Hp} (l : Le F G) : ∀ {v : List (Key × V)} {d : List (D × D)}, RepK z F v d → RepK z G v d
  | _, _, .nil => .nil
  | _, _, .cons k h t => .cons (Rep.mono l k) (Rep.mono l h) (RepK.mono l t)
end
theorem RepL.length {z : Cn} {F : Hp} : ∀ {vs : List V} {ds : List D}, RepL z F vs ds → vs.length = ds.length
  | _, _, .nil => rfl
  | _, _, .cons _ t => by simp [RepL.length t]
theorem RepL.append {z : Cn} {F : Hp} : ∀ {vs us : List V} {ds es : List D}, RepL z F vs ds → RepL z F us es → RepL z F (vs ++ us) (ds ++ es)
  | _, _, _, _, .nil, s => s
  | _, _, _, _, .cons h t, s => .cons h (RepL.append t s)
theorem RepL.get {z : Cn} {F : Hp} : ∀ {vs : List V} {ds : List D} {i : Nat} {d : D}, RepL z F vs ds → ds[i]? = some d → ∃ v, vs[i]? = some v ∧ Rep z F v d
  | _, _, _, _, .nil, e => by simp at e
  | _, _, 0, _, .cons h t, e => by simp at e; subst e; exact ⟨_, rfl, h⟩
  | _, _, i + 1, _, .cons h t, e => by
    obtain ⟨v, a, b⟩ := RepL.get (i := i) t (by simpa using e)
    exact ⟨v, by simpa using a, b⟩
theorem RepL.getV {z : Cn} {F : Hp} : ∀ {vs : List V} {ds : List D} {i : Nat} {v : V}, RepL z F vs ds → vs[i]? = some v → ∃ d, ds[i]? = some d ∧ Rep z F v d
  | _, _, _, _, .nil, e => by simp at e
  | _, _, 0, _, .cons h t, e => by simp at e; subst e; exact ⟨_, rfl, h⟩
  | _, _, i + 1, _, .cons h t, e => by
    obtain ⟨d, a, b⟩ := RepL.getV (i := i) t (by simpa using e)
    exact ⟨d, by simpa using a, b⟩
theorem RepL.take {z : Cn} {F : Hp} : ∀ {vs : List V} {ds : List D} (k : Nat), RepL z F vs ds → RepL z F (vs.take k) (ds.take k)
  | _, _, 0, _ => by simp; exact .nil
  | _, _, _ + 1, .nil => by simp; exact .nil
  | _, _, k + 1, .cons h t => .cons h (RepL.take k t)
theorem RepL.drop {z : Cn} {F : Hp} : ∀ {vs : List V} {ds : List D} (k : Nat), RepL z F vs ds → RepL z F (vs.drop k) (ds.drop k)
  | _, _, 0, r => by simpa using r
  | _, _, _ + 1, .nil => by simp; exact .nil
  | _, _, k + 1, .cons h t => by simpa using RepL.drop k t
theorem RepL.set {z : Cn} {F : Hp} {v : V} {d : D} (r : Rep z F v d) : ∀ {vs : List V} {ds : List D} (k : Nat), RepL z F vs ds → RepL z F (vs.set k v) (ds.set k d)
  | _, _, _, .nil => by simp; exact .nil
  | _, _, 0, .cons h t => .cons r t
  | _, _, k + 1, .cons h t => .cons h (RepL.set r k t)
theorem RepL.reverse {z : Cn} {F : Hp} : ∀ {vs : List V} {ds : List D}, RepL z F vs ds → RepL z F vs.reverse ds.reverse
  | _, _, .nil => .nil
  | _, _, .cons h t => by simp only [List.reverse_cons]; exact (RepL.reverse t).append (.cons h .nil)
theorem RepL.rep {z : Cn} {F : Hp} {vs : List V} {ds : List D} (h : RepL z F vs ds) : ∀ k : Nat, RepL z F (List.replicate k vs).flatten (List.replicate k ds).flatten
  | 0 => .nil
  | k + 1 => by
    show RepL z F (List.flatten (vs :: List.replicate k vs)) (List.flatten (ds :: List.replicate k ds))
    exact h.append (RepL.rep h k)
theorem repL_ints {z : Cn} {F : Hp} : ∀ ns : List Int, RepL z F (ns.map V.int) (ns.map D.int)
  | [] => .nil
  | n :: r => .cons (.int n) (repL_ints r)
theorem RepL.intsV {z : Cn} {F : Hp} : ∀ {vs : List V} {ns : List Int}, RepL z F vs (ns.map D.int) → vs = ns.map V.int
  | _, [], h => by cases h; rfl
  | _, n :: r, h => by
    cases h with
    | cons a t => cases a; rw [RepL.intsV t]; rfl
theorem RepL.dropLast {z : Cn} {F : Hp} {vs : List V} {ds : List D} (h : RepL z F vs ds) : RepL z F vs.dropLast ds.dropLast := by
  rw [List.dropLast_eq_take, List.dropLast_eq_take, h.length]; exact h.take _

/-- levels: 0 all through in G; 1 a list whose own cell may lie in G alone; 2 all through in F -/
def RepI (z : Cn) (F G : Hp) (v : V) (d : D) : Prop := match d with
  | .lst ds => ∃ a vs, v = .ref a ∧ G a = some (.lst vs) ∧ RepL z F vs ds
  | .dic ds => ∃ a kvs, v = .ref a ∧ G a = some (.dK kvs) ∧ RepK z F kvs ds
  | .dit ds => ∃ a kvs, v = .ref a ∧ G a = some (.dT kvs) ∧ RepT z F kvs ds
  | d => Rep z F v d
def RepLv (z : Cn) (lv : Nat) (F G : Hp) (v : V) (d : D) : Prop := match lv with
  | 0 => Rep z G v d
  | 1 => RepI z F G v d
  | _ => Rep z F v d
theorem Rep.i {z : Cn} {F G : Hp} (l : Le F G) {v : V} {d : D} (h : Rep z F v d) : RepI z F G v d := by
  cases h with
  | lst e r => exact ⟨_, _, rfl, l _ _ e, r⟩
  | non => exact .non
  | bl b => exact .bl b
  | int i => exact .int i
  | str x => exact .str x
  | tup e r => exact .tup e r
  | exc e => exact .exc e
  | scr e => exact .scr e
  | town e => exact .town e
  | dic e r => exact ⟨_, _, rfl, l _ _ e, r⟩
  | dit e r => exact ⟨_, _, rfl, l _ _ e, r⟩
  | fdk e r => exact .fdk e r
  | fdt e r => exact .fdt e r
theorem RepI.g {z : Cn} {F G : Hp} (l : Le F G) {v : V} {d : D} (h : RepI z F G v d) : Rep z G v d := by
  cases d with
  | lst ds => obtain ⟨a, vs, rfl, e, r⟩ := h; exact .lst e (r.mono l)
  | dic ds => obtain ⟨a, vs, rfl, e, r⟩ := h; exact .dic e (r.mono l)
  | dit ds => obtain ⟨a, vs, rfl, e, r⟩ := h; exact .dit e (r.mono l)
  | _ => exact Rep.mono l h
theorem RepI.mono {z : Cn} {F G F' G' : Hp} (l : Le F F') (m : Le G G') {v : V} {d : D} (h : RepI z F G v d) : RepI z F' G' v d := by
  cases d with
  | lst ds => obtain ⟨a, vs, rfl, e, r⟩ := h; exact ⟨a, vs, rfl, m _ _ e, r.mono l⟩
  | dic ds => obtain ⟨a, vs, rfl, e, r⟩ := h; exact ⟨a, vs, rfl, m _ _ e, r.mono l⟩
  | dit ds => obtain ⟨a, vs, rfl, e, r⟩ := h; exact ⟨a, vs, rfl, m _ _ e, r.mono l⟩
  | _ => exact Rep.mono l h
theorem RepLv.mono {z : Cn} {lv : Nat} {F G F' G' : Hp} (l : Le F F') (m : Le G G') {v : V} {d : D} (h : RepLv z lv F G v d) : RepLv z lv F' G' v d := by
  match lv, h with
  | 0, h => exact Rep.mono m h
  | 1, h => exact RepI.mono l m h
  | _ + 2, h => exact Rep.mono l h
theorem RepLv.g {z : Cn} {lv : Nat} {F G : Hp} (l : Le F G) {v : V} {d : D} (h : RepLv z lv F G v d) : Rep z G v d := by
  match lv, h with
  | 0, h => exact h
  | 1, h => exact RepI.g l h
  | _ + 2, h => exact Rep.mono l h
theorem RepLv.i {z : Cn} {lv : Nat} {F G : Hp} (l : Le F G) {v : V} {d : D} (hl : 1 ≤ lv) (h : RepLv z lv F G v d) : RepI z F G v d := by
  match lv, hl, h with
  | 1, _, h => exact h
  | _ + 2, _, h => exact Rep.i l h
theorem RepLv.two {z : Cn} {lv : Nat} {F G : Hp} {v : V} {d : D} (hl : 2 ≤ lv) (h : RepLv z lv F G v d) : Rep z F v d := by
  match lv, hl, h with
  | _ + 2, _, h => exact h
theorem Rep.lv {z : Cn} {F G : Hp} (l : Le F G) {v : V} {d : D} (lv : Nat) (h : Rep z F v d) : RepLv z lv F G v d := by
  match lv with
  | 0 => exact Rep.mono l h
  | 1 => exact Rep.i l h
  | _ + 2 => exact h

/-- own slots without some -/
def minus (own : Nat → Nat) (tg : List Nat) : Nat → Nat := fun i => if tg.contains i then 0 else own i
theorem minus_in {own : Nat → Nat} {tg : List Nat} {i : Nat} (h : i ∈ tg) : minus own tg i = 0 := by
  unfold minus; rw [if_pos (by simpa using h)]
theorem minus_out {own : Nat → Nat} {tg : List Nat} {i : Nat} (h : i ∉ tg) : minus own tg i = own i := by
  unfold minus; rw [if_neg (by simpa using h)]
/-- rows of one's own: each a list apart -/
inductive RowsL (z : Cn) (F G : Hp) : List V → List D → Prop
  | nil : RowsL z F G [] []
  | cons {q : Addr} {us : List V} {es : List D} {vs : List V} {ds : List D} : G q = some (.lst us) → F q = none → RepL z F us es → V.ref q ∉ vs → RowsL z F G vs ds → RowsL z F G (.ref q :: vs) (.lst es :: ds)
theorem RowsL.repL {z : Cn} {F G : Hp} (l : Le F G) : ∀ {vs : List V} {ds : List D}, RowsL z F G vs ds → RepL z G vs ds
  | _, _, .nil => .nil
  | _, _, .cons e _ r _ t => .cons (.lst e (r.mono l)) (RowsL.repL l t)
theorem RowsL.mono {z : Cn} {F G F' G' : Hp} (l : Le F F') : ∀ {vs : List V} {ds : List D}, (∀ q us, V.ref q ∈ vs → G q = some (.lst us) → F q = none → G' q = some (.lst us) ∧ F' q = none) → RowsL z F G vs ds → RowsL z F' G' vs ds
  | _, _, _, .nil => .nil
  | _, _, h, .cons e f r ni t => .cons (h _ _ List.mem_cons_self e f).1 (h _ _ List.mem_cons_self e f).2 (r.mono l) ni (RowsL.mono l (fun q us m => h q us (List.mem_cons_of_mem _ m)) t)
theorem RowsL.cell {z : Cn} {F G : Hp} : ∀ {vs : List V} {ds : List D} {q : Addr}, RowsL z F G vs ds → V.ref q ∈ vs → ∃ us, G q = some (.lst us) ∧ F q = none
  | _, _, _, .nil, h => by cases h
  | _, _, _, .cons e f r ni t, h => by
    rcases List.mem_cons.mp h with h | h
    · cases h; exact ⟨_, e, f⟩
    · exact RowsL.cell t h
/-- the places of an own slot -/
def Owns (G : Hp) (p : Addr) (m : Nat) (a : Addr) : Prop := a = p ∨ (2 ≤ m ∧ ∃ vs, G p = some (.lst vs) ∧ V.ref a ∈ vs)

/-- a thing of one's own: its cell lies in G alone -/
def OwnV (z : Cn) (F G : Hp) (p : Addr) (d : D) : Prop := match d with
  | .lst ds => ∃ vs, G p = some (.lst vs) ∧ RepL z F vs ds
  | .dic ds => ∃ kvs, G p = some (.dK kvs) ∧ RepK z F kvs ds
  | .dit ds => ∃ kvs, G p = some (.dT kvs) ∧ RepT z F kvs ds
  | _ => False
theorem OwnV.cell {z : Cn} {F G : Hp} {p : Addr} {d : D} (h : OwnV z F G p d) : ∃ o, G p = some o ∧ Mut (some o) := by
  cases d with
  | lst ds => obtain ⟨vs, e, _⟩ := h; exact ⟨_, e, trivial⟩
  | dic ds => obtain ⟨vs, e, _⟩ := h; exact ⟨_, e, trivial⟩
  | dit ds => obtain ⟨vs, e, _⟩ := h; exact ⟨_, e, trivial⟩
  | _ => exact h.elim
theorem OwnV.mono {z : Cn} {F G F' G' : Hp} {p : Addr} {d : D} (l : Le F F') (hg : ∀ o, G p = some o → G' p = some o) (h : OwnV z F G p d) : OwnV z F' G' p d := by
  cases d with
  | lst ds => obtain ⟨vs, e, r⟩ := h; exact ⟨vs, hg _ e, r.mono l⟩
  | dic ds => obtain ⟨vs, e, r⟩ := h; exact ⟨vs, hg _ e, r.mono l⟩
  | dit ds => obtain ⟨vs, e, r⟩ := h; exact ⟨vs, hg _ e, r.mono l⟩
  | _ => exact h.elim
theorem OwnV.repI {z : Cn} {F G : Hp} {p : Addr} {d : D} (h : OwnV z F G p d) : RepI z F G (.ref p) d := by
  cases d with
  | lst ds => obtain ⟨vs, e, r⟩ := h; exact ⟨p, vs, rfl, e, r⟩
  | dic ds => obtain ⟨vs, e, r⟩ := h; exact ⟨p, vs, rfl, e, r⟩
  | dit ds => obtain ⟨vs, e, r⟩ := h; exact ⟨p, vs, rfl, e, r⟩
  | _ => exact h.elim
theorem OwnV.rep {z : Cn} {F G F' : Hp} {p : Addr} {d : D} (l : Le F F') (hg : ∀ o, G p = some o → F' p = some o) (h : OwnV z F G p d) : Rep z F' (.ref p) d := by
  cases d with
  | lst ds => obtain ⟨vs, e, r⟩ := h; exact .lst (hg _ e) (r.mono l)
  | dic ds => obtain ⟨vs, e, r⟩ := h; exact .dic (hg _ e) (r.mono l)
  | dit ds => obtain ⟨vs, e, r⟩ := h; exact .dit (hg _ e) (r.mono l)
  | _ => exact h.elim
/-- what is the same all through a def's run -/
structure Fx extends Cn where
  H0 : Hp
  F0 : Hp
  own : Nat → Nat

/-- free, or a tuple -/
def Fr (H : Hp) (a : Addr) : Prop := H a = none ∨ ∃ xs, H a = some (.tup xs)
theorem Fr.of {H : Hp} {a : Addr} (h : H a = none) : Fr H a := .inl h
theorem Fr.mut {H : Hp} {a : Addr} {o : HO} (h : Fr H a) (e : H a = some o) (m : Mut (some o)) : False := by
  rcases h with h | ⟨xs, h⟩
  · rw [e] at h; cases h
  · rw [e] at h; cases h; exact m
/-- the heap goes on: nothing that stands in F or G is lost, what is new was free; the town has n' -/
structure Step (z : Fx) (H F G H' F' G' : Hp) (n' : Nat) : Prop where
  ff : Le F F'
  gg : Le G G'
  fg : Le F' G'
  gh : Le G' H'
  nf : ∀ a, F' a ≠ none → F a ≠ none ∨ Fr H a
  ng : ∀ a, G' a ≠ none → G a ≠ none ∨ Fr H a
  kp : ∀ a o, H a = some o → z.pt ≠ some a → H' a = some o
  h0 : ∀ a o, z.H0 a = some o → z.pt ≠ some a → H' a = some o
  dom : ∀ a, H a ≠ none → H' a ≠ none
  tw : ∀ a, z.pt = some a → H' a = some (.lst (List.replicate n' (.int 0))) ∧ G' a = none ∧ z.H0 a ≠ none
theorem Step.fr {z : Fx} {H F G H1 F1 G1 : Hp} {n1 : Nat} (s : Step z H F G H1 F1 G1 n1) {a : Addr} (h : Fr H1 a) : Fr H a := by
  cases e : H a with
  | none => exact .inl e
  | some o =>
    rcases h with h | ⟨xs, h⟩
    · exact absurd h (s.dom a (by rw [e]; simp))
    · by_cases q : z.pt = some a
      · rw [(s.tw a q).1] at h; cases h
      · rw [s.kp a o e q] at h
        exact .inr ⟨xs, by rw [e, h]⟩
theorem Step.trans {z : Fx} {H F G H1 F1 G1 H2 F2 G2 : Hp} {n1 n2 : Nat} (a : Step z H F G H1 F1 G1 n1) (b : Step z H1 F1 G1 H2 F2 G2 n2) : Step z H F G H2 F2 G2 n2 where
  ff := a.ff.trans b.ff
  gg := a.gg.trans b.gg
  fg := b.fg
  gh := b.gh
  nf := fun x h => by
    rcases b.nf x h with h | h
    · exact a.nf x h
    · exact .inr (a.fr h)
  ng := fun x h => by
    rcases b.ng x h with h | h
    · exact a.ng x h
    · exact .inr (a.fr h)
  kp := fun x o e q => b.kp x o (a.kp x o e q) q
  h0 := b.h0
  dom := fun x h => b.dom x (a.dom x h)
  tw := b.tw

structure ER (z : Fx) (σ : St) (H F G : Hp) (env : Ev) (n : Nat) : Prop where
  fg : Le F G
  gh : Le G H
  h0 : ∀ a o, z.H0 a = some o → z.pt ≠ some a → H a = some o
  tw : ∀ a, z.pt = some a → H a = some (.lst (List.replicate n (.int 0))) ∧ G a = none ∧ z.H0 a ≠ none
  val : ∀ (i : Nat) d, env[i]? = some (some d) → z.own i = 0 → ∃ v, σ[i]? = some (some v) ∧ Rep z.toCn F v d
  ow : ∀ (i : Nat) d, env[i]? = some (some d) → z.own i = 1 → ∃ p, σ[i]? = some (some (.ref p)) ∧ F p = none ∧ OwnV z.toCn F G p d
  ow2 : ∀ (i : Nat) d, env[i]? = some (some d) → 2 ≤ z.own i → ∃ p vs ds, d = .lst ds ∧ σ[i]? = some (some (.ref p)) ∧ G p = some (.lst vs) ∧ F p = none ∧ RowsL z.toCn F G vs ds ∧ V.ref p ∉ vs
  dis : ∀ (i j : Nat) d e p q a, i ≠ j → z.own i ≠ 0 → z.own j ≠ 0 → env[i]? = some (some d) → env[j]? = some (some e) → σ[i]? = some (some (.ref p)) → σ[j]? = some (some (.ref q)) → Owns G p (z.own i) a → ¬ Owns G q (z.own j) a
  len : env.length = σ.length
section
variable {z : Fx} {σ : St} {H F G H' F' G' : Hp} {env : Ev} {n n' : Nat}
theorem ER.refl (e : ER z σ H F G env n) : Step z H F G H F G n := ⟨.rfl, .rfl, e.fg, e.gh, fun _ h => .inl h, fun _ h => .inl h, fun _ _ e _ => e, e.h0, fun _ h => h, e.tw⟩
theorem ER.free0 (e : ER z σ H F G env n) {a : Addr} (h : H a = none) : z.H0 a = none := by
  cases q : z.H0 a with
  | none => rfl
  | some o =>
    by_cases hp : z.pt = some a
    · rw [(e.tw a hp).1] at h; cases h
    · rw [e.h0 a o q hp] at h; cases h
theorem ER.notTown (e : ER z σ H F G env n) {a : Addr} (h : H a = none) : z.pt ≠ some a := fun q => by
  rw [(e.tw a q).1] at h; cases h
theorem ER.cell (e : ER z σ H F G env n) {i : Nat} {d : D} {p : Addr} (h : env[i]? = some (some d)) (o : z.own i ≠ 0) (hs : σ[i]? = some (some (.ref p))) : ∃ o, G p = some o ∧ Mut (some o) ∧ F p = none := by
  by_cases o1 : z.own i = 1
  · obtain ⟨q, b, f, w⟩ := e.ow i d h o1
    rw [b] at hs; cases hs
    obtain ⟨o, c, m⟩ := w.cell
    exact ⟨o, c, m, f⟩
  · obtain ⟨q, vs, ds, _, b, c, f, _⟩ := e.ow2 i d h (by omega)
    rw [b] at hs; cases hs
    exact ⟨_, c, trivial, f⟩
theorem ER.ownsCell (e : ER z σ H F G env n) {i : Nat} {d : D} {p a : Addr} (h : env[i]? = some (some d)) (o : z.own i ≠ 0) (hs : σ[i]? = some (some (.ref p))) (w : Owns G p (z.own i) a) : ∃ o, G a = some o ∧ Mut (some o) ∧ F a = none := by
  rcases w with rfl | ⟨h2, vs, g, m⟩
  · exact e.cell h o hs
  · obtain ⟨q, us, ds, _, b, c, f, r, _⟩ := e.ow2 i d h h2
    rw [b] at hs; cases hs
    rw [c] at g; cases g
    obtain ⟨us, x, y⟩ := r.cell m
    exact ⟨_, x, trivial, y⟩
theorem Owns.same {p a : Addr} {m : Nat} {o : HO} (h : G p = some o) (h' : G' p = some o) (w : Owns G' p m a) : Owns G p m a := by
  rcases w with rfl | ⟨h2, us, g, q⟩
  · exact .inl rfl
  · rw [h'] at g; cases g
    exact .inr ⟨h2, _, h, q⟩
theorem ER.step (e : ER z σ H F G env n) (s : Step z H F G H' F' G' n') : ER z σ H' F' G' env n' := by
  have no : ∀ p o, G p = some o → Mut (some o) → F p = none → F' p = none := fun p vs c m f => by
    refine Classical.byContradiction fun q => ?_
    rcases s.nf p q with h | h
    · exact h f
    · exact h.mut (e.gh _ _ c) m
  exact {
  fg := s.fg
  gh := s.gh
  h0 := s.h0
  tw := s.tw
  val := fun i d h o => by
    obtain ⟨v, a, r⟩ := e.val i d h o
    exact ⟨v, a, r.mono s.ff⟩
  ow := fun i d h o => by
    obtain ⟨p, b, f, w⟩ := e.ow i d h o
    obtain ⟨u, c, m⟩ := w.cell
    exact ⟨p, b, no p u c m f, w.mono s.ff fun o q => s.gg _ _ q⟩
  ow2 := fun i d h o => by
    obtain ⟨p, vs, ds, a, b, c, f, r, m⟩ := e.ow2 i d h o
    exact ⟨p, vs, ds, a, b, s.gg _ _ c, no p _ c trivial f, r.mono s.ff fun q us _ c f => ⟨s.gg _ _ c, no q _ c trivial f⟩, m⟩
  dis := fun i j d d' p q a hne hi hj h1 h2 h3 h4 w1 w2 => by
    obtain ⟨o1, g1, _⟩ := e.cell h1 hi h3
    obtain ⟨o2, g2, _⟩ := e.cell h2 hj h4
    exact e.dis i j d d' p q a hne hi hj h1 h2 h3 h4 (w1.same g1 (s.gg _ _ g1)) (w2.same g2 (s.gg _ _ g2))
  len := e.len }
/-- a new object, told to F and G -/
theorem Step.newF (s : Step z H F G H' F' G' n') (hd : ∀ a, z.H0 a ≠ none → H' a ≠ none) {p : Addr} {o : HO} (hp : H' p = none) : Step z H F G (upd H' p o) (upd F' p o) (upd G' p o) n' where
  ff := s.ff.trans (Le.grow (s.fg.non (s.gh.non hp)))
  gg := s.gg.trans (Le.grow (s.gh.non hp))
  fg := s.fg.both
  gh := s.gh.both
  nf := fun a h => by
    by_cases e : a = p
    · subst e; exact .inr (.inl (Classical.byContradiction fun q => s.dom a q hp))
    · rw [upd_ne e] at h; exact s.nf a h
  ng := fun a h => by
    by_cases e : a = p
    · subst e; exact .inr (.inl (Classical.byContradiction fun q => s.dom a q hp))
    · rw [upd_ne e] at h; exact s.ng a h
  kp := fun a o h q => by
    rw [upd_ne (fun e => by subst e; exact s.dom a (by rw [h]; simp) hp)]; exact s.kp a o h q
  h0 := fun a o h q => by
    rw [upd_ne (fun e => by subst e; exact hd a (by rw [h]; simp) hp)]; exact s.h0 a o h q
  dom := fun a h => by
    by_cases e : a = p
    · subst e; rw [upd_same]; simp
    · rw [upd_ne e]; exact s.dom a h
  tw := fun a h => by
    obtain ⟨x, y, w⟩ := s.tw a h
    have e : a ≠ p := fun e => by subst e; rw [x] at hp; cases hp
    rw [upd_ne e, upd_ne e]; exact ⟨x, y, w⟩
/-- a new object, told to neither -/
theorem Step.newH (s : Step z H F G H' F' G' n') (hd : ∀ a, z.H0 a ≠ none → H' a ≠ none) {p : Addr} {o : HO} (hp : H' p = none) : Step z H F G (upd H' p o) F' G' n' where
  ff := s.ff
  gg := s.gg
  fg := s.fg
  gh := s.gh.right (s.gh.non hp)
  nf := s.nf
  ng := s.ng
  kp := fun a o h q => by
    rw [upd_ne (fun e => by subst e; exact s.dom a (by rw [h]; simp) hp)]; exact s.kp a o h q
  h0 := fun a o h q => by
    rw [upd_ne (fun e => by subst e; exact hd a (by rw [h]; simp) hp)]; exact s.h0 a o h q
  dom := fun a h => by
    by_cases e : a = p
    · subst e; rw [upd_same]; simp
    · rw [upd_ne e]; exact s.dom a h
  tw := fun a h => by
    obtain ⟨x, y, w⟩ := s.tw a h
    have e : a ≠ p := fun e => by subst e; rw [x] at hp; cases hp
    rw [upd_ne e]; exact ⟨x, y, w⟩
/-- what H has and F, G have not is told to both, to G alone -/
theorem Step.tellF' (s : Step z H F G H' F' G' n') {p : Addr} {o : HO} (hp : H' p = some o) (h : Fr H p) (hg : G' p = none) (ht : z.pt ≠ some p) : Step z H F G H' (upd F' p o) (upd G' p o) n' where
  ff := s.ff.trans (Le.grow (s.fg.non hg))
  gg := s.gg.trans (Le.grow hg)
  fg := s.fg.both
  gh := fun a u e => by
    by_cases q : a = p
    · subst q; rw [upd_same] at e; cases e; exact hp
    · rw [upd_ne q] at e; exact s.gh a u e
  nf := fun a q => by
    by_cases e : a = p
    · subst e; exact .inr h
    · rw [upd_ne e] at q; exact s.nf a q
  ng := fun a q => by
    by_cases e : a = p
    · subst e; exact .inr h
    · rw [upd_ne e] at q; exact s.ng a q
  kp := s.kp
  h0 := s.h0
  dom := s.dom
  tw := fun a ha => by
    obtain ⟨x, y, w⟩ := s.tw a ha
    have e : a ≠ p := fun e => ht (e ▸ ha)
    rw [upd_ne e]; exact ⟨x, y, w⟩
theorem Step.tellG' (s : Step z H F G H' F' G' n') {p : Addr} {o : HO} (hp : H' p = some o) (h : Fr H p) (hg : G' p = none) (ht : z.pt ≠ some p) : Step z H F G H' F' (upd G' p o) n' where
  ff := s.ff
  gg := s.gg.trans (Le.grow hg)
  fg := s.fg.right (s.fg.non hg)
  gh := fun a u e => by
    by_cases q : a = p
    · subst q; rw [upd_same] at e; cases e; exact hp
    · rw [upd_ne q] at e; exact s.gh a u e
  nf := s.nf
  ng := fun a q => by
    by_cases e : a = p
    · subst e; exact .inr h
    · rw [upd_ne e] at q; exact s.ng a q
  kp := s.kp
  h0 := s.h0
  dom := s.dom
  tw := fun a ha => by
    obtain ⟨x, y, w⟩ := s.tw a ha
    have e : a ≠ p := fun e => ht (e ▸ ha)
    rw [upd_ne e]; exact ⟨x, y, w⟩
theorem Step.tellF (s : Step z H F G H' F' G' n') {p : Addr} {o : HO} (hp : H' p = some o) (h : H p = none) (hg : G' p = none) (ht : z.pt ≠ some p) : Step z H F G H' (upd F' p o) (upd G' p o) n' := s.tellF' hp (.inl h) hg ht
theorem Step.tellG (s : Step z H F G H' F' G' n') {p : Addr} {o : HO} (hp : H' p = some o) (h : H p = none) (hg : G' p = none) (ht : z.pt ≠ some p) : Step z H F G H' F' (upd G' p o) n' := s.tellG' hp (.inl h) hg ht
theorem ER.dom0 (e : ER z σ H F G env n) : ∀ a, z.H0 a ≠ none → H a ≠ none := fun a h q => h (e.free0 q)
end

/-! ### the weakest readings -/
section
variable (X : Cx)
def wE (e : Expr) : TE := fun σ H Q => ∀ (pins : List (Addr × Obj)) (s : Shared), Inv X pins σ H s → wpAny (model X.prog X.w) X.A (eval e X.env) (EP X pins σ Q) X.xe s
def wT (e : Expr) : TT := fun σ H Q => ∀ (pins : List (Addr × Obj)) (s : Shared), Inv X pins σ H s → wpAny (model X.prog X.w) X.A (isTrue e X.env (eval e X.env)) (TP X pins σ Q) X.xe s
def wA (es : List Expr) : TA := fun σ H Q => ∀ (pos : Pos) (pins : List (Addr × Obj)) (s : Shared), Inv X pins σ H s → wpAny (model X.prog X.w) X.A (spliced (backTo pos (starEach es X.env))) (AP X pins σ Q) X.xe s
def wS (st : Stmt) : TS := fun D σ H => ∀ (pins : List (Addr × Obj)) (s : Shared), Inv X pins σ H s → wpAny (model X.prog X.w) X.A (exec st X.env) (SP X pins D) X.xe s
def wSs (st : List Stmt) : TS := fun D σ H => ∀ (pins : List (Addr × Obj)) (s : Shared), Inv X pins σ H s → wpAny (model X.prog X.w) X.A (execs st X.env) (SP X pins D) X.xe s
def wG (tg : Expr) : TG := fun v σ H Q => ∀ (pins : List (Addr × Obj)) (s : Shared) (u : Value), Inv X pins σ H s → RelV v u → wpAny (model X.prog X.w) X.A (assign tg X.env u) (fun _ s' => ∃ σ' H', Inv X pins σ' H' s' ∧ Q σ' H') X.xe s
def wI (tg it : Expr) : TI := fun σ H R => ∀ (pins : List (Addr × Obj)) (s : Shared), Inv X pins σ H s → wpAny (model X.prog X.w) X.A (eval it X.env) (fun v s1 => wpAny (model X.prog X.w) X.A (pyIter v) (PIE X pins σ tg R) X.xe s1) X.xe s
def w2 (f : Value → Value → Sem Value) : R2 := fun x y H Q => ∀ (pins : List (Addr × Obj)) (s : Shared) (σ : St) (v u : Value), Inv X pins σ H s → RelV x v → RelV y u → wpAny (model X.prog X.w) X.A (f v u) (EP X pins σ Q) X.xe s
end
section
variable {X : Cx}
theorem peW (e : Expr) : PE X e (wE X e) := ⟨fun pins s σ H Q I h => h pins s I⟩
theorem ptW (e : Expr) : PT X e (wT X e) := ⟨fun pins s σ H Q I h => h pins s I⟩
theorem paW (e : List Expr) : PA X e (wA X e) := ⟨fun pos pins s σ H Q I h => h pos pins s I⟩
theorem psW (e : Stmt) : PS X e (wS X e) := ⟨fun pins s σ H Q I h => h pins s I⟩
theorem pssW (e : List Stmt) : PSs X e (wSs X e) := ⟨fun pins s σ H Q I h => h pins s I⟩
theorem pgW (e : Expr) : PG X e (wG X e) := ⟨fun pins s σ H v u Q I r h => h pins s u I r⟩
theorem piW (tg e : Expr) : PI X tg e (wI X tg e) := ⟨fun pins s σ H R I h => h pins s I⟩
theorem _root_.L2.PE.w {e : Expr} {t : TE} (h : PE X e t) {σ : St} {H : Hp} {Q : VK} (q : t σ H Q) : wE X e σ H Q := fun pins s I => h.run pins s σ H Q I q
theorem _root_.L2.PT.w {e : Expr} {t : TT} (h : PT X e t) {σ : St} {H : Hp} {Q : Bool → Hp → Prop} (q : t σ H Q) : wT X e σ H Q := fun pins s I => h.run pins s σ H Q I q
theorem _root_.L2.PA.w {e : List Expr} {t : TA} (h : PA X e t) {σ : St} {H : Hp} {Q : List V → Hp → Prop} (q : t σ H Q) : wA X e σ H Q := fun pos pins s I => h.run pos pins s σ H Q I q
theorem _root_.L2.PS.w {e : Stmt} {t : TS} (h : PS X e t) {σ : St} {H : Hp} {D : Ends} (q : t D σ H) : wS X e D σ H := fun pins s I => h.run pins s σ H D I q
theorem _root_.L2.PSs.w {e : List Stmt} {t : TS} (h : PSs X e t) {σ : St} {H : Hp} {D : Ends} (q : t D σ H) : wSs X e D σ H := fun pins s I => h.run pins s σ H D I q
theorem _root_.L2.PG.w {e : Expr} {t : TG} (h : PG X e t) {v : V} {σ : St} {H : Hp} {Q : St → Hp → Prop} (q : t v σ H Q) : wG X e v σ H Q := fun pins s u I r => h.run pins s σ H v u Q I r q
theorem _root_.L2.PI.w {tg e : Expr} {t : TI} (h : PI X tg e t) {σ : St} {H : Hp} {R : It → Hp → Prop} (q : t σ H R) : wI X tg e σ H R := fun pins s I => h.run pins s σ H R I q
end
end L2.Ms

namespace L2.Ms
open PySem PySem.Spec PyProof.Rows Mv

/-! ### levels -/
def lv1 (p : P1) (l : Nat) : Nat := match p with
  | .toL | .toT | .rev | .srt | .minL => if 1 ≤ l then 2 else 0
  | _ => 2
def lv2 (p : P2) (l m : Nat) : Nat := match p with
  | .add | .min2 => if 1 ≤ l ∧ 1 ≤ m then 2 else 0
  | .mul | .idx => if 1 ≤ l then 2 else 0
  | .dzip => if 1 ≤ m then 2 else 0
  | _ => 2
mutual
def lev (own : Nat → Nat) : ME → Nat
  | .v i => 2 - own i
  | .p1 p a => lv1 p (lev own a)
  | .p2 p a b => lv2 p (lev own a) (lev own b)
  | .mt p a b => lv2 p (lev own a) (lev own b)
  | .sl a _ _ => if 1 ≤ lev own a then 2 else 0
  | .and _ b => lev own b
  | .or _ b => lev own b
  | .ite _ a b => min (lev own a) (lev own b)
  | .call _ as => if levA own as then 2 else 0
  | .tup as => if levA own as then 2 else 0
  | .lst as => if levA own as then 2 else 0
  | .lc tg _ _ e => if 2 ≤ lev (minus own tg) e then 2 else 0
  | .dge a _ x => if 1 ≤ lev own a ∧ 2 ≤ lev own x then 2 else 0
  | _ => 2
def levA (own : Nat → Nat) : MEs → Bool
  | .nil => true
  | .cons a as => decide (2 ≤ lev own a) && levA own as
end
def levI (own : Nat → Nat) : MI → Nat
  | .sq a => lev own a
  | .rg _ => 2
  | .rg2 _ _ => 2
  | .ks a => lev own a
  | .vs a => lev own a

/-! ### what is wanted behind an expression -/
def PostE (z : Fx) (W : WX) (σ : St) (H F G : Hp) (lv : Nat) (o : Out D) (Q : VK) : Prop := match o with
  | .ok d n' => ∀ v H' F' G', Step z H F G H' F' G' n' → RepLv z.toCn lv F' G' v d → Q v H'
  | .ex c n' => ∀ H' F' G', Step z H F G H' F' G' n' → W (.ref (He.ga z.K c)) none σ H'
  | .bad => False
/-- a new list, told to nobody yet -/
def PostF (z : Fx) (W : WX) (σ : St) (H F G : Hp) (o : Out D) (Q : VK) : Prop := match o with
  | .ok d n' => ∀ p vs ds, d = .lst ds → ∀ H' F' G', Step z H F G H' F' G' n' → H p = none → H' p = some (.lst vs) → G' p = none → z.pt ≠ some p → RepL z.toCn F' vs ds → Q (.ref p) H'
  | .ex c n' => ∀ H' F' G', Step z H F G H' F' G' n' → W (.ref (He.ga z.K c)) none σ H'
  | .bad => False

section inversions
variable {z : Cn} {lv : Nat} {F G : Hp} {v : V}
theorem Rep.intE {i : Int} (h : Rep z F v (.int i)) : v = .int i := by cases h; rfl
theorem Rep.blE {i : Bool} (h : Rep z F v (.bl i)) : v = .bl i := by cases h; rfl
theorem Rep.strE {i : Str} (h : Rep z F v (.str i)) : v = .str i := by cases h; rfl
theorem Rep.nonE (h : Rep z F v .non) : v = .non := by cases h; rfl
theorem Rep.lstE {ds : List D} (h : Rep z F v (.lst ds)) : ∃ a vs, v = .ref a ∧ F a = some (.lst vs) ∧ RepL z F vs ds := by cases h with | lst e r => exact ⟨_, _, rfl, e, r⟩
theorem Rep.tupE {ds : List D} (h : Rep z F v (.tup ds)) : ∃ a vs, v = .ref a ∧ F a = some (.tup vs) ∧ RepL z F vs ds := by cases h with | tup e r => exact ⟨_, _, rfl, e, r⟩
theorem lvInt (l : Le F G) {i : Int} (h : RepLv z lv F G v (.int i)) : v = .int i := (h.g l).intE
theorem lvBl (l : Le F G) {i : Bool} (h : RepLv z lv F G v (.bl i)) : v = .bl i := (h.g l).blE
theorem lvStr (l : Le F G) {i : Str} (h : RepLv z lv F G v (.str i)) : v = .str i := (h.g l).strE
theorem lvLst (l : Le F G) {ds : List D} (h : RepLv z lv F G v (.lst ds)) : ∃ a vs, v = .ref a ∧ G a = some (.lst vs) ∧ RepL z G vs ds ∧ (1 ≤ lv → RepL z F vs ds) := by
  obtain ⟨a, vs, rfl, e, r⟩ := (h.g l).lstE
  refine ⟨a, vs, rfl, e, r, fun hl => ?_⟩
  obtain ⟨b, us, eq, e', r'⟩ := h.i l hl
  cases eq
  rw [e] at e'
  cases e'
  exact r'
theorem lvTup (l : Le F G) {ds : List D} (h : RepLv z lv F G v (.tup ds)) : ∃ a vs, v = .ref a ∧ G a = some (.tup vs) ∧ RepL z G vs ds ∧ (1 ≤ lv → F a = some (.tup vs) ∧ RepL z F vs ds) := by
  obtain ⟨a, vs, rfl, e, r⟩ := (h.g l).tupE
  refine ⟨a, vs, rfl, e, r, fun hl => ?_⟩
  have q : Rep z F (.ref a) (.tup ds) := h.i l hl
  obtain ⟨b, us, eq, e', r'⟩ := q.tupE
  cases eq
  have := l _ _ e'
  rw [e] at this
  cases this
  exact ⟨e', r'⟩
end inversions

theorem line_eq : line = sizeLine := by rw [sizeLine_eq]; rfl

/-! ### data for == -/
mutual
def toPy : D → PyData
  | .bl b => .bool b
  | .int i => .int i
  | .str x => .str x
  | .lst xs => .list (toPys xs)
  | .tup xs => .tuple (toPys xs)
  | _ => .none
def toPys : List D → List PyData
  | [] => []
  | x :: xs => toPy x :: toPys xs
end
mutual
theorem Rep.dp {K : PySem.W.Frag} {z : Cn} {G H : Hp} (l : Le G H) : ∀ {k : Nat} {d : D} {v : V}, Rep z G v d → shp k d = true → Dp K H v (toPy d)
  | _, _, _, .non, _ => .non
  | _, _, _, .bl b, _ => .bl b
  | _, _, _, .int b, _ => .int b
  | _, _, _, .str b, _ => .str b
  | k + 1, _, _, .lst e r, h => .lst (SqL.of (l _ _ e)) (RepL.dp l r (by simpa [shp] using h))
  | k + 1, _, _, .tup e r, h => .tup (SqT.of (l _ _ e)) (RepL.dp l r (by simpa [shp] using h))
  | 0, _, _, .lst e r, h => by simp [shp] at h
  | 0, _, _, .tup e r, h => by simp [shp] at h
  | _, _, _, .exc _, h => by simp [shp] at h
  | _, _, _, .scr _, h => by simp [shp] at h
  | _, _, _, .town _, h => by simp [shp] at h
  | _, _, _, .dic _ _, h => by simp [shp] at h
  | _, _, _, .dit _ _, h => by simp [shp] at h
  | _, _, _, .fdk _ _, h => by simp [shp] at h
  | _, _, _, .fdt _ _, h => by simp [shp] at h
theorem RepL.dp {K : PySem.W.Frag} {z : Cn} {G H : Hp} (l : Le G H) : ∀ {k : Nat} {ds : List D} {vs : List V}, RepL z G vs ds → shpAll k ds = true → DpAll K H vs (toPys ds)
  | _, _, _, .nil, _ => .nil
  | _, _, _, .cons a t, h => by
    simp only [shpAll, Bool.and_eq_true] at h
    exact .cons (Rep.dp l a h.1) (RepL.dp l t h.2)
end
mutual
theorem shp_lay : ∀ {k : Nat} {d : D}, shp k d = true → (toPy d).canLay0 = true ∧ (toPy d).depth ≤ k
  | k, .non, _ => by simp [toPy, PyData.canLay0, PyData.depth]
  | k, .bl _, _ => by simp [toPy, PyData.canLay0, PyData.depth]
  | k, .int _, _ => by simp [toPy, PyData.canLay0, PyData.depth]
  | k, .str x, h => by
    simp only [toPy, PyData.canLay0, PyData.depth]
    refine ⟨?_, Nat.zero_le _⟩
    simp only [shp, strGood, List.all_eq_true, decide_eq_true_eq] at h
    simp only [PyData.strOk, Array.all_eq_true_iff_forall_mem, decide_eq_true_eq]
    intro c hc
    have := h c (by simpa using hc)
    omega
  | k + 1, .lst xs, h => by
    have q := shpAll_lay (k := k) (ds := xs) (by simpa [shp] using h)
    simp only [toPy, PyData.canLay0, PyData.depth]
    exact ⟨q.1, by omega⟩
  | k + 1, .tup xs, h => by
    have q := shpAll_lay (k := k) (ds := xs) (by simpa [shp] using h)
    simp only [toPy, PyData.canLay0, PyData.depth]
    exact ⟨q.1, by omega⟩
  | 0, .lst xs, h => by simp [shp] at h
  | 0, .tup xs, h => by simp [shp] at h
  | _, .exc _, h => by simp [shp] at h
  | _, .dic _, h => by simp [shp] at h
  | _, .dit _, h => by simp [shp] at h
  | _, .fdk _, h => by simp [shp] at h
  | _, .fdt _, h => by simp [shp] at h
  | _, .scr _, h => by simp [shp] at h
  | _, .town, h => by simp [shp] at h
theorem shpAll_lay : ∀ {k : Nat} {ds : List D}, shpAll k ds = true → PyData.canLayAll0 (toPys ds) = true ∧ PyData.depthAll (toPys ds) ≤ k
  | k, [], _ => by simp [toPys, PyData.canLayAll0, PyData.depthAll]
  | k, d :: ds, h => by
    simp only [shpAll, Bool.and_eq_true] at h
    have a := shp_lay h.1
    have b := shpAll_lay h.2
    simp only [toPys, PyData.canLayAll0, PyData.depthAll, Bool.and_eq_true]
    exact ⟨⟨a.1, b.1⟩, by omega⟩
end
theorem shp_shaped {k : Nat} {d : D} (hk : k ≤ 64) (h : shp k d = true) : SeqAt.shaped (toPy d) = true := by
  have q := shp_lay h
  simp only [SeqAt.shaped, Bool.and_eq_true, decide_eq_true_eq]
  exact ⟨q.1, by omega⟩
theorem shpAll_shaped {k : Nat} {ds : List D} (hk : k < 64) (h : shpAll k ds = true) : SeqAt.shaped (.list (toPys ds)) = true := by
  have q := shpAll_lay h
  have e1 : (PyData.list (toPys ds)).canLay0 = PyData.canLayAll0 (toPys ds) := by simp only [PyData.canLay0]
  have e2 : (PyData.list (toPys ds)).depth = PyData.depthAll (toPys ds) + 1 := by simp only [PyData.depth]
  simp only [SeqAt.shaped, Bool.and_eq_true, decide_eq_true_eq]
  rw [e1, e2]
  exact ⟨q.1, by omega⟩
mutual
theorem eqv_py : ∀ {k m : Nat} {d e : D}, shp k d = true → shp m e = true → PyData.eqv (toPy d) (toPy e) = eqv d e
  | k, m, d, e, h1, h2 => by
    cases d with
    | lst xs =>
      cases e with
      | lst ys =>
        cases k with
        | zero => simp [shp] at h1
        | succ k =>
          cases m with
          | zero => simp [shp] at h2
          | succ m =>
            simp only [toPy, PyData.eqv, eqv]
            exact eqvAll_py (by simpa [shp] using h1) (by simpa [shp] using h2)
      | _ => first | (simp [shp] at h2; done) | simp [toPy, PyData.eqv, eqv]
    | tup xs =>
      cases e with
      | tup ys =>
        cases k with
        | zero => simp [shp] at h1
        | succ k =>
          cases m with
          | zero => simp [shp] at h2
          | succ m =>
            simp only [toPy, PyData.eqv, eqv]
            exact eqvAll_py (by simpa [shp] using h1) (by simpa [shp] using h2)
      | _ => first | (simp [shp] at h2; done) | simp [toPy, PyData.eqv, eqv]
    | _ => cases e <;> first | (simp [shp] at h1; done) | (simp [shp] at h2; done) | simp [toPy, PyData.eqv, eqv]
theorem eqvAll_py : ∀ {k m : Nat} {ds es : List D}, shpAll k ds = true → shpAll m es = true → PyData.eqvAll (toPys ds) (toPys es) = eqvAll ds es
  | k, m, [], [], h1, h2 => by simp [toPys, PyData.eqvAll, eqvAll]
  | k, m, [], _ :: _, h1, h2 => by simp [toPys, PyData.eqvAll, eqvAll]
  | k, m, _ :: _, [], h1, h2 => by simp [toPys, PyData.eqvAll, eqvAll]
  | k, m, d :: ds, e :: es, h1, h2 => by
    simp only [shpAll, Bool.and_eq_true] at h1 h2
    simp only [toPys, PyData.eqvAll, eqvAll]
    rw [eqv_py h1.1 h2.1, eqvAll_py h1.2 h2.2]
end
theorem toPys_map : ∀ ds : List D, toPys ds = ds.map toPy
  | [] => rfl
  | d :: ds => by simp [toPys, toPys_map ds]
theorem shpAll_mem {k : Nat} : ∀ {ds : List D}, shpAll k ds = true → ∀ d ∈ ds, shp k d = true
  | [], _, d, h => by cases h
  | e :: ds, h, d, hd => by
    simp only [shpAll, Bool.and_eq_true] at h
    rcases List.mem_cons.mp hd with rfl | hd
    · exact h.1
    · exact shpAll_mem h.2 d hd
theorem any_py {k m : Nat} {d : D} (hd : shp m d = true) : ∀ {ds : List D}, shpAll k ds = true → (toPys ds).any (fun y => PyData.eqv y (toPy d)) = ds.any fun y => eqv y d
  | [], _ => rfl
  | e :: ds, h => by
    simp only [shpAll, Bool.and_eq_true] at h
    simp only [toPys, List.any_cons, eqv_py h.1 hd, any_py hd h.2]
end L2.Ms

/-! # Msk: dicts told -/
namespace L2.Ms
open PySem PySem.Spec PyProof.Rows Mv
def kD : Key → D
  | .inl i => .int i
  | .inr x => .str x
theorem kD_eqv (a b : Key) : eqv (kD a) (kD b) = decide (a = b) := by
  cases a with
  | inl i => cases b with
    | inl j => simp only [kD, eqv, Sum.inl.injEq]; by_cases h : i = j <;> simp [h]
    | inr j => simp [kD, eqv]
  | inr i => cases b with
    | inl j => simp [kD, eqv]
    | inr j => simp only [kD, eqv, Sum.inr.injEq]; by_cases h : i = j <;> simp [h]
theorem kDs_eqv : ∀ a b : List Key, eqvAll (a.map kD) (b.map kD) = decide (a = b)
  | [], [] => rfl
  | [], _ :: _ => by simp [eqvAll]
  | _ :: _, [] => by simp [eqvAll]
  | a :: r, b :: t => by
    simp only [List.map_cons, eqvAll, kD_eqv, kDs_eqv r t, List.cons.injEq, Bool.decide_and]
theorem kDt_eqv (a b : List Key) : eqv (.tup (a.map kD)) (.tup (b.map kD)) = decide (a = b) := by
  rw [← kDs_eqv]; simp only [eqv]
theorem kK_kD (k : Key) : kK (kD k) = true := by cases k <;> rfl
theorem keys_all : ∀ k : List Key, (k.map kD).all kK = true
  | [] => rfl
  | a :: r => by simp only [List.map_cons, List.all_cons, kK_kD, keys_all r, Bool.and_self]
section
variable {c : Cn} {F : Hp}
theorem Rep.key {v : V} {d : D} (h : Rep c F v d) (hk : kK d = true) : ∃ k : Key, v = kV k ∧ d = kD k := by
  cases h <;> first | (simp [kK] at hk; done) | exact ⟨.inl _, rfl, rfl⟩ | exact ⟨.inr _, rfl, rfl⟩
theorem RepL.keys : ∀ {vs : List V} {ds : List D}, RepL c F vs ds → ds.all kK = true → ∃ k : List Key, vs = k.map kV ∧ ds = k.map kD
  | _, _, .nil, _ => ⟨[], rfl, rfl⟩
  | _, _, .cons h t, q => by
    simp only [List.all_cons, Bool.and_eq_true] at q
    obtain ⟨k, rfl, rfl⟩ := Rep.key h q.1
    obtain ⟨r, rfl, rfl⟩ := RepL.keys t q.2
    exact ⟨k :: r, rfl, rfl⟩
theorem rep_key (k : Key) : Rep c F (kV k) (kD k) := by
  cases k with
  | inl i => exact .int i
  | inr x => exact .str x
theorem repL_keys : ∀ k : List Key, RepL c F (k.map kV) (k.map kD)
  | [] => .nil
  | a :: r => .cons (rep_key a) (repL_keys r)
theorem Rep.kV {k : Key} {d : D} (h : Rep c F (L2.kV k) d) : d = kD k := by
  cases k with
  | inl i =>
    have h : Rep c F (.int i) d := h
    cases h; rfl
  | inr x =>
    have h : Rep c F (.str x) d := h
    cases h; rfl
theorem RepL.kV {k : List Key} {kd : List D} (h : RepL c F (k.map L2.kV) kd) : kd = k.map kD := by
  induction k generalizing kd with
  | nil => cases h; rfl
  | cons a r ih =>
    cases h with
    | cons x t => rw [Rep.kV x, ih t]; rfl
/-- what a look-up gives -/
def RO (c : Cn) (F : Hp) (o : Option V) (d : Option D) : Prop := match o, d with
  | none, none => True
  | some v, some d => Rep c F v d
  | _, _ => False
theorem RO.isSome {o : Option V} {d : Option D} (h : RO c F o d) : o.isSome = d.isSome := by
  cases o <;> cases d <;> first | rfl | exact h.elim
theorem RO.some {o : Option V} {d : D} (h : RO c F o (some d)) : ∃ v, o = some v ∧ Rep c F v d := by
  cases o with
  | none => exact h.elim
  | some v => exact ⟨v, rfl, h⟩
theorem RO.getD {o : Option V} {d : Option D} {v : V} {e : D} (h : RO c F o d) (r : Rep c F v e) : Rep c F (o.getD v) (d.getD e) := by
  cases o <;> cases d <;> first | exact r | exact h | exact h.elim
theorem dget_cons (kv : D × D) (r : List (D × D)) (k : D) : dget (kv :: r) k = if eqv kv.1 k then some kv.2 else dget r k := by
  unfold dget
  rw [List.find?_cons]
  cases eqv kv.1 k <;> rfl
theorem RepK.get (k : Key) : ∀ {kvs : List (Key × V)} {ds : List (D × D)}, RepK c F kvs ds → RO c F (valV kvs k) (dget ds (kD k))
  | _, _, .nil => trivial
  | _, _, .cons (k := k1) hk hv t => by
    have e := Rep.kV hk
    subst e
    rw [dget_cons, kD_eqv]
    by_cases e : k1 = k
    · rw [valV_pos e, decide_eq_true e]; exact hv
    · rw [valV_neg e, decide_eq_false e]; exact RepK.get k t
theorem RepT.get (k : List Key) : ∀ {kvs : List (List Key × V)} {ds : List (D × D)}, RepT c F kvs ds → RO c F (valV kvs k) (dget ds (.tup (k.map kD)))
  | _, _, .nil => trivial
  | _, _, .cons (k := k1) hk _ hv t => by
    have e := RepL.kV hk
    subst e
    rw [dget_cons, kDt_eqv]
    by_cases e : k1 = k
    · rw [valV_pos e, decide_eq_true e]; exact hv
    · rw [valV_neg e, decide_eq_false e]; exact RepT.get k t
theorem RepK.any (k : Key) : ∀ {kvs : List (Key × V)} {ds : List (D × D)}, RepK c F kvs ds → (kvs.any fun kv => decide (kv.1 = k)) = ds.any fun kv => eqv kv.1 (kD k)
  | _, _, .nil => rfl
  | _, _, .cons (k := k1) hk hv t => by
    have e := Rep.kV hk
    subst e
    rw [List.any_cons, List.any_cons, kD_eqv, RepK.any k t]
theorem RepK.repl (k : Key) {v : V} {d : D} (r : Rep c F v d) : ∀ {kvs : List (Key × V)} {ds : List (D × D)}, RepK c F kvs ds → RepK c F (kvs.map fun kv => if kv.1 = k then (kv.1, v) else kv) (ds.map fun kv => if eqv kv.1 (kD k) then (kv.1, d) else kv)
  | _, _, .nil => .nil
  | _, _, .cons (k := k1) hk hv t => by
    have e := Rep.kV hk
    subst e
    rw [List.map_cons, List.map_cons]
    dsimp only
    rw [kD_eqv]
    by_cases e : k1 = k
    · rw [if_pos e, decide_eq_true e, if_pos rfl]; exact .cons hk r (RepK.repl k r t)
    · rw [if_neg e, decide_eq_false e, if_neg Bool.false_ne_true]; exact .cons hk hv (RepK.repl k r t)
theorem RepK.snoc (k : Key) {v : V} {d : D} (r : Rep c F v d) : ∀ {kvs : List (Key × V)} {ds : List (D × D)}, RepK c F kvs ds → RepK c F (kvs ++ [(k, v)]) (ds ++ [(kD k, d)])
  | _, _, .nil => .cons (rep_key k) r .nil
  | _, _, .cons hk hv t => .cons hk hv (RepK.snoc k r t)
theorem RepK.put (k : Key) {v : V} {d : D} (r : Rep c F v d) {kvs : List (Key × V)} {ds : List (D × D)} (h : RepK c F kvs ds) : RepK c F (putK kvs k v) (dput ds (kD k) d) := by
  unfold putK dput
  rw [h.any k]
  split
  · exact h.repl k r
  · exact h.snoc k r
theorem RepT.any (k : List Key) : ∀ {kvs : List (List Key × V)} {ds : List (D × D)}, RepT c F kvs ds → (kvs.any fun kv => decide (kv.1 = k)) = ds.any fun kv => eqv kv.1 (.tup (k.map kD))
  | _, _, .nil => rfl
  | _, _, .cons (k := k1) hk _ hv t => by
    have e := RepL.kV hk
    subst e
    rw [List.any_cons, List.any_cons, kDt_eqv, RepT.any k t]
theorem RepT.repl (k : List Key) {v : V} {d : D} (r : Rep c F v d) : ∀ {kvs : List (List Key × V)} {ds : List (D × D)}, RepT c F kvs ds → RepT c F (kvs.map fun kv => if kv.1 = k then (kv.1, v) else kv) (ds.map fun kv => if eqv kv.1 (.tup (k.map kD)) then (kv.1, d) else kv)
  | _, _, .nil => .nil
  | _, _, .cons (k := k1) hk ha hv t => by
    have e := RepL.kV hk
    subst e
    rw [List.map_cons, List.map_cons]
    dsimp only
    rw [kDt_eqv]
    by_cases e : k1 = k
    · rw [if_pos e, decide_eq_true e, if_pos rfl]; exact .cons hk ha r (RepT.repl k r t)
    · rw [if_neg e, decide_eq_false e, if_neg Bool.false_ne_true]; exact .cons hk ha hv (RepT.repl k r t)
theorem RepT.snoc (k : List Key) {v : V} {d : D} (r : Rep c F v d) : ∀ {kvs : List (List Key × V)} {ds : List (D × D)}, RepT c F kvs ds → RepT c F (kvs ++ [(k, v)]) (ds ++ [(.tup (k.map kD), d)])
  | _, _, .nil => .cons (repL_keys k) (keys_all k) r .nil
  | _, _, .cons hk ha hv t => .cons hk ha hv (RepT.snoc k r t)
theorem RepT.put (k : List Key) {v : V} {d : D} (r : Rep c F v d) {kvs : List (List Key × V)} {ds : List (D × D)} (h : RepT c F kvs ds) : RepT c F (putK kvs k v) (dput ds (.tup (k.map kD)) d) := by
  unfold putK dput
  rw [h.any k]
  split
  · exact h.repl k r
  · exact h.snoc k r
theorem RepK.length : ∀ {kvs : List (Key × V)} {ds : List (D × D)}, RepK c F kvs ds → kvs.length = ds.length
  | _, _, .nil => rfl
  | _, _, .cons _ _ t => by simp [RepK.length t]
theorem RepT.length : ∀ {kvs : List (List Key × V)} {ds : List (D × D)}, RepT c F kvs ds → kvs.length = ds.length
  | _, _, .nil => rfl
  | _, _, .cons _ _ _ t => by simp [RepT.length t]
theorem RepT.merge : ∀ {more : List (List Key × V)} {ms : List (D × D)}, RepT c F more ms → ∀ {kvs : List (List Key × V)} {ds : List (D × D)}, RepT c F kvs ds → RepT c F (more.foldl (fun acc kv => putK acc kv.1 kv.2) kvs) (ms.foldl (fun acc kv => dput acc kv.1 kv.2) ds)
  | _, _, .nil, _, _, h => h
  | _, _, .cons hk _ hv t, _, _, h => by
    have e := RepL.kV hk
    subst e
    rw [List.foldl_cons, List.foldl_cons]
    exact RepT.merge t (h.put _ hv)
end
theorem _root_.L2.Rd.mono {G H : Hp} (l : Le G H) {a : Addr} {u : HO} (h : Rd G a u) : Rd H a u := by
  rcases h with h | ⟨o, h⟩
  · exact .inl (l _ _ h)
  · exact .inr ⟨o, l _ _ h⟩
def IsK (d : D) (ds : List (D × D)) : Prop := d = .dic ds ∨ d = .fdk ds
def IsT (d : D) (ds : List (D × D)) : Prop := d = .dit ds ∨ d = .fdt ds
section
variable {z : Cn} {lv : Nat} {F G : Hp} {v : V} {d : D} {ds : List (D × D)}
theorem lvK (l : Le F G) (hd : IsK d ds) (h : RepLv z lv F G v d) : ∃ a kvs, v = .ref a ∧ Rd G a (.dK kvs) ∧ RepK z G kvs ds ∧ (1 ≤ lv → RepK z F kvs ds) := by
  rcases hd with rfl | rfl
  · have q := h.g l
    cases q with
    | dic e r =>
      refine ⟨_, _, rfl, .inl e, r, fun hl => ?_⟩
      obtain ⟨b, us, eq, e', r'⟩ := h.i l hl
      cases eq
      rw [e] at e'
      cases e'
      exact r'
  · have q := h.g l
    cases q with
    | fdk e r =>
      refine ⟨_, _, rfl, .inr ⟨_, e⟩, r, fun hl => ?_⟩
      have q : Rep z F _ (.fdk ds) := h.i l hl
      cases q with
      | fdk e' r' =>
        have := l _ _ e'
        rw [e] at this
        cases this
        exact r'
theorem lvT (l : Le F G) (hd : IsT d ds) (h : RepLv z lv F G v d) : ∃ a kvs, v = .ref a ∧ Rd G a (.dT kvs) ∧ RepT z G kvs ds ∧ (1 ≤ lv → RepT z F kvs ds) := by
  rcases hd with rfl | rfl
  · have q := h.g l
    cases q with
    | dit e r =>
      refine ⟨_, _, rfl, .inl e, r, fun hl => ?_⟩
      obtain ⟨b, us, eq, e', r'⟩ := h.i l hl
      cases eq
      rw [e] at e'
      cases e'
      exact r'
  · have q := h.g l
    cases q with
    | fdt e r =>
      refine ⟨_, _, rfl, .inr ⟨_, e⟩, r, fun hl => ?_⟩
      have q : Rep z F _ (.fdt ds) := h.i l hl
      cases q with
      | fdt e' r' =>
        have := l _ _ e'
        rw [e] at this
        cases this
        exact r'
theorem dicOf_some {d k : D} (h : dicOf d k = some ds) : (IsK d ds ∧ kK k = true) ∨ (IsT d ds ∧ kT k = true) := by
  unfold dicOf at h
  split at h <;> first | (split at h <;> first | (cases h; rename_i q; first | exact .inl ⟨.inl rfl, q⟩ | exact .inl ⟨.inr rfl, q⟩ | exact .inr ⟨.inl rfl, q⟩ | exact .inr ⟨.inr rfl, q⟩) | cases h) | cases h
/-- a look-up -/
theorem dget_ok {m : Nat} {H : Hp} {y : V} {k : D} (l : Le F G) (gh : Le G H) (hd : dicOf d k = some ds) (hx : RepLv z lv F G v d) (hy : RepLv z m F G y k) :
    ∃ a o, v = .ref a ∧ DGet H a y o ∧ IsD H a ∧ RO z G o (dget ds k) ∧ (1 ≤ lv → RO z F o (dget ds k)) := by
  rcases dicOf_some hd with ⟨hd, hk⟩ | ⟨hd, hk⟩
  · obtain ⟨a, kvs, rfl, e, r, rf⟩ := lvK l hd hx
    obtain ⟨k, rfl, rfl⟩ := (hy.g l).key hk
    exact ⟨a, _, rfl, .inl ⟨kvs, k, e.mono gh, rfl, rfl⟩, .inl ⟨kvs, e.mono gh⟩, r.get k, fun q => (rf q).get k⟩
  · obtain ⟨a, kvs, rfl, e, r, rf⟩ := lvT l hd hx
    cases k with
    | tup xs =>
      obtain ⟨b, us, rfl, eb, rb, _⟩ := lvTup l hy
      obtain ⟨k, rfl, rfl⟩ := rb.keys hk
      exact ⟨a, _, rfl, .inr ⟨kvs, k, b, e.mono gh, rfl, gh _ _ eb, rfl⟩, .inr ⟨kvs, e.mono gh⟩, r.get k, fun q => (rf q).get k⟩
    | _ => simp [kT] at hk
end
/-! ### rules -/
section
variable {X : Cx}
theorem cr_lenK : CallR X (.builtin "len") (fun xs H Q => ∃ (p : Addr) (kvs : List (Key × V)), xs = [.ref p] ∧ Rd H p (.dK kvs) ∧ Q (.int ((kvs.length : Nat) : Int)) H) := by
  intro pins s σ H xs us Q I r h
  obtain ⟨p, kvs, rfl, hp, q⟩ := h
  obtain ⟨u, rfl, rx⟩ := vals1 r
  obtain rfl : u = .ref p := rx
  exact d_len I hp fun t s' I' => ⟨.int ((kvs.length : Nat) : Int), H, I', ⟨_, rfl⟩, q⟩
theorem cr_lenT : CallR X (.builtin "len") (fun xs H Q => ∃ (p : Addr) (kvs : List (List Key × V)), xs = [.ref p] ∧ Rd H p (.dT kvs) ∧ Q (.int ((kvs.length : Nat) : Int)) H) := by
  intro pins s σ H xs us Q I r h
  obtain ⟨p, kvs, rfl, hp, q⟩ := h
  obtain ⟨u, rfl, rx⟩ := vals1 r
  obtain rfl : u = .ref p := rx
  obtain ⟨z, hd, ys, rel, dd⟩ := dt_rd I.hok hp
  have hl : kvs.length = ys.length := Paired.length rel
  refine call_len_dictH hd dd (by rw [← hl]; rw [sizeLine_eq] at z; omega) ?_
  rw [← hl]
  exact ⟨.int ((kvs.length : Nat) : Int), H, I.tok _, ⟨_, rfl⟩, q⟩
theorem ix_d (hu : X.A.units + 1 < cLine) : IxR X (fun x y H Q => ∃ a v, x = .ref a ∧ DGet H a y (some v) ∧ Q v H) := by
  intro value slice pins s σ H x y v u Q I rx ry h hs
  obtain ⟨a, t, rfl, g, q⟩ := h
  obtain rfl : v = Value.ref a := rx
  exact tail_any (dict_typeIs I g) PySem.F.slot_dict_getitem.lookup (d_getItem hu I g ry fun w' s3 I3 rw' => ⟨t, H, I3, rw', q⟩) hs
theorem op_din (hu : X.A.units + 1 < cLine) : OpR X (compareOp .In) (fun y x H Q => ∃ a o, x = .ref a ∧ DGet H a y o ∧ Q (.bl o.isSome) H) := by
  intro pins s σ H y x v u Q I ry rx h
  obtain ⟨a, o, rfl, g, q⟩ := h
  obtain rfl : u = Value.ref a := rx
  exact d_in hu I g ry fun s3 I3 => ⟨.bl o.isSome, H, I3, rfl, q⟩
theorem op_dnin (hu : X.A.units + 1 < cLine) : OpR X (compareOp .NotIn) (fun y x H Q => ∃ a o, x = .ref a ∧ DGet H a y o ∧ Q (.bl (!o.isSome)) H) := by
  intro pins s σ H y x v u Q I ry rx h
  obtain ⟨a, o, rfl, g, q⟩ := h
  obtain rfl : u = Value.ref a := rx
  exact d_notIn hu I g ry fun s3 I3 => ⟨.bl (!o.isSome), H, I3, rfl, q⟩
end
section
variable {prog : Program} {w : World} {K : Type} [DecidableEq K] {knd : HeapKind prog w K} {A : Around} {E : Value → Shared → Prop} {s : Shared}
theorem truthy_dictH {d : Addr} {xs : List (K × Addr × Value)} {Q : Bool → Shared → Prop} (hd : (d == sysModules) = false) (hm : s.heap.DictOfH knd d xs) (hfit : (xs.length : Int) < 2 ^ 63)
    (h : Q (!xs.isEmpty) { s with toks := s.toks + 1 + 1 }) : wpAny (model prog w) A (truthy (.ref d)) Q E s := by
  have hne : ((xs.length : Int) != 0) = !xs.isEmpty := by cases xs <;> simp <;> omega
  have key : wpAny (model prog w) A (runValue (.builtin "len" ⟨[.ref d], []⟩)) (fun r s' => r = .int xs.length (s.toks + 1) ∧ Q (!xs.isEmpty) s') E s := by
    refine wpAny_runValue (codeAny_builtin entry_len ?_)
    rw [Around.under_plainId plain_len _]
    exact wpAny_mono (wpAny_len_body_dictH (Q := fun r s' => r = .int xs.length (s.toks + 1) ∧ Q (!xs.isEmpty) s') hd hm hfit ⟨rfl, h⟩)
      (fun fin s' h' => by obtain ⟨r, rfl, hq⟩ := h'; exact hq) fun _ _ e => e
  unfold truthy
  first
    | refine wpAny_bind (wpAny_callSpecial?_none (name := Str.ofString "__bool__") hm.typeIs noBool_dict ?_)
    | refine wpAny_bind (wpAny_pure (wpAny_bind (wpAny_callSpecial?_none (name := Str.ofString "__bool__") hm.typeIs noBool_dict ?_)))
  first
    | refine wpAny_bind (wpAny_specialOf (name := Str.ofString "__len__") hm.typeIs F.slot_dict_len.lookup ?_)
    | refine wpAny_bind (wpAny_pure (wpAny_bind (wpAny_specialOf (name := Str.ofString "__len__") hm.typeIs F.slot_dict_len.lookup ?_)))
  first
    | exact wpAny_bind (wpAny_mono key (fun r s' h' => by obtain ⟨rfl, hq⟩ := h'; exact wpAny_pure (hne ▸ hq)) fun _ _ e => e)
    | exact wpAny_bind (wpAny_pure (wpAny_bind (wpAny_mono key (fun r s' h' => by obtain ⟨rfl, hq⟩ := h'; exact wpAny_pure (hne ▸ hq)) fun _ _ e => e)))
end
section
variable {X : Cx}
/-- .. or a dict with tuple keys -/
def TruW (K : PySem.W.Frag) (x : V) (H : Hp) (k : Bool) : Prop := TruV K x H k ∨ ∃ (p : Addr) (kvs : List (List Key × V)), x = .ref p ∧ Rd H p (.dT kvs) ∧ k = !kvs.isEmpty
theorem pt_truthW {a : Expr} {ta : TE} (ha : PE X a ta) (he : ∀ whole, isTrue a X.env whole = (do let v ← whole; standAt a.pos; holding [v] (truthy v))) :
    PT X a (fun σ H Q => ta σ H fun x H' => ∃ k, TruW X.K x H' k ∧ Q k H') := by
  refine ⟨fun pins s σ H Q I h => ?_⟩
  refine isTrue_plain (thn (ha.run pins s σ H _ I h) fun v s1 ⟨x, H1, I1, r1, k, t, q1⟩ => ?_) (he _)
  rcases t with t | ⟨p, kvs, rfl, e, rfl⟩
  · exact tru_ok pins s1 σ H1 x v Q I1 r1 ⟨k, t, q1⟩
  · obtain rfl : v = .ref p := r1
    obtain ⟨z, hd, ys, rel, dd⟩ := dt_rd I1.hok e
    have hl : kvs.length = ys.length := Paired.length rel
    refine truthy_dictH hd dd (by rw [← hl]; rw [sizeLine_eq] at z; omega) ?_
    have q : kvs.isEmpty = ys.isEmpty := by cases rel <;> rfl
    rw [← q]
    exact ⟨H1, I1.tok _, q1⟩
end
end L2.Ms

/-! # Msm: tuple * 1, tuple * 0 -/
namespace L2.Ms
open PySem PySem.Spec PyProof.Rows Mv
theorem tuple_mul1 (l : Addr) (items : Array Value) (n : Nat) (dd : Option Addr) (sl : Array (Option Value)) (u : Tok) :
    Meets (Builtin.«tuple.__mul__» ⟨[.ref l, .int 1 u], []⟩) (fun _ R s => s.heap.get? l = some { cls := .type "tuple", dict := dd, data := .seq items n, slots := sl } ∧
      R (.ok (.ret (Value.ref l))) s) :=
  .of_wp fun prog w A R s h => by
    obtain ⟨hp, g, d, tk, os⟩ := s
    obtain ⟨hl, h⟩ := h
    have f1 := AutoSeq1.idx_int
    have c0 : (decide ((1 : Int) < -(2 ^ 63)) || decide ((1 : Int) ≥ 2 ^ 63)) = false := by decide
    have c1 : (items.isEmpty || (1 : Int) == 1) = true := by simp
    wp_walk using wpAny_loadPart' hl
    repeat (first
      | (refine wpAny_ite_false (decide_eq_false (by rw [c0]; exact Bool.false_ne_true)) ?_; wp_walk using wpAny_loadPart' hl)
      | (refine wpAny_ite_true (decide_eq_true (by rw [c1])) ?_; wp_walk using wpAny_loadPart' hl))
    exact ⟨_, rfl, h⟩
theorem tuple_mul0 (l : Addr) (items : Array Value) (n : Nat) (dd : Option Addr) (sl : Array (Option Value)) (u : Tok) (hne : items.isEmpty = false) :
    Meets (Builtin.«tuple.__mul__» ⟨[.ref l, .int 0 u], []⟩) (fun _ R s => s.heap.get? l = some { cls := .type "tuple", dict := dd, data := .seq items n, slots := sl } ∧
      R (.ok (.ret (Value.ref s.heap.objs.size))) { s with heap := s.heap.push { cls := Value.type "tuple", data := Data.seq #[] }, toks := s.toks }) :=
  .of_wp fun prog w A R s h => by
    obtain ⟨hp, g, d, tk, os⟩ := s
    obtain ⟨hl, h⟩ := h
    have f1 := AutoSeq1.idx_int
    have c0 : (decide ((0 : Int) < -(2 ^ 63)) || decide ((0 : Int) ≥ 2 ^ 63)) = false := by decide
    have c1 : (items.isEmpty || (0 : Int) == 1) = false := by rw [hne]; rfl
    have c2 : (decide ((0 : Int) ≤ 0) || items.isEmpty) = true := by simp
    wp_walk using wpAny_loadPart' hl
    repeat (first
      | (refine wpAny_ite_false (decide_eq_false (by rw [c0]; exact Bool.false_ne_true)) ?_; wp_walk using wpAny_loadPart' hl)
      | (refine wpAny_ite_false (decide_eq_false (by rw [c1]; exact Bool.false_ne_true)) ?_; wp_walk using wpAny_loadPart' hl)
      | (refine wpAny_ite_true (decide_eq_true (by rw [c2])) ?_; wp_walk using wpAny_loadPart' hl))
    exact ⟨_, rfl, h⟩
def rRepT1 (K : PySem.W.Frag) : R2 := fun x y H Q => ∃ l xs, x = .ref l ∧ y = .int 1 ∧ SqT K H l xs ∧ Q (.ref l) H
def rRepT0 (K : PySem.W.Frag) : R2 := fun x y H Q => ∃ l xs, x = .ref l ∧ y = .int 0 ∧ SqT K H l xs ∧ xs ≠ [] ∧ ∀ p, H p = none → Q (.ref p) (upd H p (.tup []))
section
variable {X : Cx}
theorem op_repT1 : OpR X (binaryOp .Mult) (rRepT1 X.K) := by
  intro pins s σ H x y v u Q I rx ry h
  obtain ⟨l, xs, rfl, rfl, hT, q⟩ := h
  cases rx
  obtain ⟨t, rfl⟩ := ry
  obtain ⟨its, r, ⟨⟨cls, dd, data, sl⟩, ho, hc, n, hd⟩, hs⟩ := I.tuple hT
  simp only at hc hd
  subst hc hd
  refine wpAny_binaryOp_repeat_ref (T := "tuple") (U := "int") (by decide) ⟨_, ho, rfl⟩ (fun s' => typeIs_int s' 1 t) noFill_tuple_mul F.fills_int_mul F.slot_int_rmul repeat_tuple F.slot_int_index.lookup
    (call_meets F.slot_int_rmul (typeIs_int s 1 t) F.entry_int_rmul (F.args_int_rmul_2 _ _) (int_rmul_tuple 1 t l its.toArray n dd sl)
      ⟨ho, rfl, ⟨_, ho, rfl⟩, call_meets F.slot_tuple_mul ⟨_, ho, rfl⟩ F.entry_tuple_mul (F.args_tuple_mul_2 _ _) (tuple_mul1 l its.toArray n dd sl t) ⟨ho, ?_⟩⟩)
  exact ⟨.ref l, H, I, rfl, q⟩
theorem op_repT0 : OpR X (binaryOp .Mult) (rRepT0 X.K) := by
  intro pins s σ H x y v u Q I rx ry h
  obtain ⟨l, xs, rfl, rfl, hT, hne, q⟩ := h
  cases rx
  obtain ⟨t, rfl⟩ := ry
  obtain ⟨its, r, ⟨⟨cls, dd, data, sl⟩, ho, hc, n, hd⟩, hs⟩ := I.tuple hT
  simp only at hc hd
  subst hc hd
  have hle : its.length = xs.length := r.length.symm
  have hi : its.toArray.isEmpty = false := by
    cases its with
    | nil => exact absurd (List.eq_nil_of_length_eq_zero hle.symm) hne
    | cons a b => rfl
  refine wpAny_binaryOp_repeat_ref (T := "tuple") (U := "int") (by decide) ⟨_, ho, rfl⟩ (fun s' => typeIs_int s' 0 t) noFill_tuple_mul F.fills_int_mul F.slot_int_rmul repeat_tuple F.slot_int_index.lookup
    (call_meets F.slot_int_rmul (typeIs_int s 0 t) F.entry_int_rmul (F.args_int_rmul_2 _ _) (int_rmul_tuple 0 t l its.toArray n dd sl)
      ⟨ho, rfl, ⟨_, ho, rfl⟩, call_meets F.slot_tuple_mul ⟨_, ho, rfl⟩ F.entry_tuple_mul (F.args_tuple_mul_2 _ _) (tuple_mul0 l its.toArray n dd sl t hi) ⟨ho, ?_⟩⟩)
  refine ⟨.ref s.heap.objs.size, _, I.laid (t' := s.toks) (o := .tup []) (fun b ob q => Heap.get?_push_of_some _ q) (Nat.le_refl _) ?_, rfl, q _ (I.hok.fresh (Nat.le_refl _))⟩
  exact ⟨Nat.zero_le _, [], .nil, IsTup.new _ _⟩
end
end L2.Ms

namespace L2.Ms
open PySem PySem.Spec PyProof.Rows Mv

theorem _root_.L2.OpR.w {X : Cx} {f : Value → Value → Sem Value} {r : R2} (h : OpR X f r) {x y : V} {H : Hp} {Q : VK} (q : r x y H Q) : w2 X f x y H Q := fun pins s σ v u I r1 r2 => h pins s σ H x y v u Q I r1 r2 q
theorem w2R {X : Cx} {f : Value → Value → Sem Value} : OpR X f (w2 X f) := fun pins s σ H x y v u Q I r1 r2 h => h pins s σ v u I r1 r2

section
variable {z : Fx} {σ : St} {H F G : Hp} {env : Ev} {n : Nat} {Q : VK}
theorem fin_lst {lv : Nat} {p : Addr} {vs : List V} {ds : List D} (er : ER z σ H F G env n) (hp : H p = none) (rg : RepL z.toCn G vs ds) (rf : 1 ≤ lv → RepL z.toCn F vs ds)
    (hq : ∀ v H' F' G', Step z H F G H' F' G' n → RepLv z.toCn lv F' G' v (.lst ds) → Q v H') : Q (.ref p) (upd H p (.lst vs)) := by
  have st := er.refl.newF er.dom0 (o := .lst vs) hp
  refine hq _ _ _ _ st ?_
  have gp := er.gh.non hp
  have fp := er.fg.non gp
  match lv, rf with
  | 0, _ => exact .lst upd_same (rg.mono (Le.grow gp))
  | k + 1, rf => exact Rep.lv st.fg _ (.lst upd_same ((rf (by omega)).mono (Le.grow fp)))
theorem fin_tup {lv : Nat} {p : Addr} {vs : List V} {ds : List D} (er : ER z σ H F G env n) (hp : H p = none) (rg : RepL z.toCn G vs ds) (rf : 1 ≤ lv → RepL z.toCn F vs ds)
    (hq : ∀ v H' F' G', Step z H F G H' F' G' n → RepLv z.toCn lv F' G' v (.tup ds) → Q v H') : Q (.ref p) (upd H p (.tup vs)) := by
  have st := er.refl.newF er.dom0 (o := .tup vs) hp
  refine hq _ _ _ _ st ?_
  have gp := er.gh.non hp
  have fp := er.fg.non gp
  match lv, rf with
  | 0, _ => exact .tup upd_same (rg.mono (Le.grow gp))
  | k + 1, rf => exact Rep.lv st.fg _ (.tup upd_same ((rf (by omega)).mono (Le.grow fp)))
theorem fin_same {lv : Nat} {v : V} {d : D} (er : ER z σ H F G env n) (r : Rep z.toCn F v d)
    (hq : ∀ v H' F' G', Step z H F G H' F' G' n → RepLv z.toCn lv F' G' v d → Q v H') : Q v H := hq _ _ _ _ er.refl (Rep.lv er.fg _ r)
/-- a new list, told to nobody -/
theorem fin_F {p : Addr} {vs : List V} {ds : List D} (er : ER z σ H F G env n) (hp : H p = none) (rf : RepL z.toCn F vs ds)
    (hq : ∀ p vs es, D.lst ds = .lst es → ∀ H' F' G', Step z H F G H' F' G' n → H p = none → H' p = some (.lst vs) → G' p = none → z.pt ≠ some p → RepL z.toCn F' vs es → Q (.ref p) H') : Q (.ref p) (upd H p (.lst vs)) :=
  hq p vs ds rfl _ F G (er.refl.newH er.dom0 hp) hp upd_same (er.gh.non hp) (er.notTown hp) rf
end

section
variable {X : Cx} {z : Fx}
/-- what is shown of a two-place piece -/
def Pr2 (X : Cx) (z : Fx) (p : P2) (f : Value → Value → Sem Value) : Prop := ∀ {σ : St} {H F G : Hp} {env : Ev} {n : Nat} {x y : V} {d e r : D} {l m : Nat} {Q : VK},
  ER z σ H F G env n → RepLv z.toCn l F G x d → RepLv z.toCn m F G y e → sem2 p n d e = some r →
  (∀ v H' F' G', Step z H F G H' F' G' n → RepLv z.toCn (lv2 p l m) F' G' v r → Q v H') → w2 X f x y H Q

theorem pr_add : Pr2 X z .add (binaryOp .Add) := by
  intro σ H F G env n x y d e r l m Q er hx hy hs hq
  unfold sem2 at hs
  split at hs <;> try (first | contradiction | (rename_i h1 h2 h3; cases h1; done))
  · cases hs
    exact op_add.w ⟨_, _, lvInt er.fg hx, lvInt er.fg hy, fin_same er (.int _) hq⟩
  · split at hs <;> cases hs
    rename_i hz
    exact op_add_str.w ⟨_, _, lvStr er.fg hx, lvStr er.fg hy, by rw [← line_eq]; exact hz, fin_same er (.str _) hq⟩
  · split at hs <;> cases hs
    rename_i hz
    obtain ⟨a, vs, rfl, ea, ra, fa⟩ := lvLst er.fg hx
    obtain ⟨b, us, rfl, eb, rb, fb⟩ := lvLst er.fg hy
    refine op_cat.w ⟨a, b, vs, us, rfl, rfl, er.gh _ _ ea, er.gh _ _ eb, by rw [ra.length, rb.length, ← line_eq]; exact hz, fun p hp => fin_lst er hp (ra.append rb) (fun hl => ?_) hq⟩
    have : 1 ≤ l ∧ 1 ≤ m := by
      refine Classical.byContradiction fun q => ?_
      simp [lv2, q] at hl
    exact (fa this.1).append (fb this.2)
  · split at hs <;> cases hs
    rename_i hz
    obtain ⟨a, vs, rfl, ea, ra, fa⟩ := lvTup er.fg hx
    obtain ⟨b, us, rfl, eb, rb, fb⟩ := lvTup er.fg hy
    have two : ∀ {q : Nat}, 1 ≤ lv2 .add l m → 1 ≤ l ∧ 1 ≤ m := fun hl => by
      refine Classical.byContradiction fun q => ?_
      simp [lv2, q] at hl
    refine op_catA.w ⟨a, b, vs, us, rfl, rfl, SqT.of (er.gh _ _ ea), SqT.of (er.gh _ _ eb), by rw [ra.length, rb.length, ← line_eq]; exact hz, fun e0 => ?_, fun _ e0 => ?_, fun _ _ p hp => fin_tup er hp (ra.append rb) (fun hl => ?_) hq⟩
    · subst e0
      cases ra
      refine hq _ _ _ _ er.refl ?_
      simp only [List.nil_append]
      match h : lv2 .add l m with
      | 0 => exact Rep.tup eb rb
      | k + 1 =>
        have t := two (q := 0) (by rw [h]; omega)
        exact Rep.lv er.fg _ (.tup (fb t.2).1 (fb t.2).2)
    · subst e0
      cases rb
      refine hq _ _ _ _ er.refl ?_
      simp only [List.append_nil]
      match h : lv2 .add l m with
      | 0 => exact Rep.tup ea ra
      | k + 1 =>
        have t := two (q := 0) (by rw [h]; omega)
        exact Rep.lv er.fg _ (.tup (fa t.1).1 (fa t.1).2)
    · have t := two (q := 0) hl
      exact (fa t.1).2.append (fb t.2).2

theorem pr_sub : Pr2 X z .sub (binaryOp .Sub) := by
  intro σ H F G env n x y d e r l m Q er hx hy hs hq
  unfold sem2 at hs
  split at hs <;> try (first | contradiction | (rename_i h1 h2 h3; cases h1; done))
  cases hs
  exact op_sub.w ⟨_, _, lvInt er.fg hx, lvInt er.fg hy, fin_same er (.int _) hq⟩
theorem pr_mod : Pr2 X z .mod (binaryOp .Mod) := by
  intro σ H F G env n x y d e r l m Q er hx hy hs hq
  unfold sem2 at hs
  split at hs <;> try (first | contradiction | (rename_i h1 h2 h3; cases h1; done))
  split at hs <;> cases hs
  rename_i hz
  exact op_mod.w ⟨_, _, lvInt er.fg hx, lvInt er.fg hy, hz, fin_same er (.int _) hq⟩
theorem pr_fdiv : Pr2 X z .fdiv (binaryOp .FloorDiv) := by
  intro σ H F G env n x y d e r l m Q er hx hy hs hq
  unfold sem2 at hs
  split at hs <;> try (first | contradiction | (rename_i h1 h2 h3; cases h1; done))
  split at hs <;> cases hs
  rename_i hz
  exact op_fdiv.w ⟨_, _, lvInt er.fg hx, lvInt er.fg hy, hz, fin_same er (.int _) hq⟩
theorem pr_pow : Pr2 X z .pow (binaryOp .Pow) := by
  intro σ H F G env n x y d e r l m Q er hx hy hs hq
  unfold sem2 at hs
  split at hs <;> try (first | contradiction | (rename_i h1 h2 h3; cases h1; done))
  split at hs <;> cases hs
  rename_i hz
  exact op_pow.w ⟨_, _, lvInt er.fg hx, lvInt er.fg hy, hz, fin_same er (.int _) hq⟩
theorem pr_mul : Pr2 X z .mul (binaryOp .Mult) := by
  intro σ H F G env n x y d e r l m Q er hx hy hs hq
  unfold sem2 at hs
  split at hs <;> try (first | contradiction | (rename_i h1 h2 h3; cases h1; done))
  · split at hs <;> cases hs
    rename_i hz
    exact op_mul.w ⟨_, _, lvInt er.fg hx, lvInt er.fg hy, hz, fin_same er (.int _) hq⟩
  · split at hs <;> cases hs
    rename_i hz
    obtain ⟨a, vs, rfl, ea, ra, fa⟩ := lvLst er.fg hx
    refine op_rep.w ⟨a, _, vs, rfl, lvInt er.fg hy, er.gh _ _ ea, hz.2.1, hz.1, by rw [ra.length, ← line_eq]; exact hz.2.2, fun p hp => fin_lst er hp (ra.rep _) (fun hl => (fa ?_).rep _) hq⟩
    refine Classical.byContradiction fun q => ?_
    simp [lv2, q] at hl
  · split at hs <;> cases hs
    rename_i hz
    obtain ⟨a, vs, rfl, ea, ra, fa⟩ := lvTup er.fg hx
    have hy := lvInt er.fg hy
    subst hy
    have hne : vs ≠ [] := fun e0 => hz.1 (by subst e0; cases ra; rfl)
    have hl1 : ∀ {k : Nat}, 1 ≤ lv2 .mul l m → 1 ≤ l := fun {k} hl => by
      refine Classical.byContradiction fun q => ?_
      simp [lv2, q] at hl
    rename_i k _
    by_cases h2 : 2 ≤ k
    · exact op_repT.w ⟨a, _, vs, rfl, rfl, SqT.of (er.gh _ _ ea), hne, h2, hz.2.2.1, by rw [ra.length]; exact hz.2.2.2, fun p hp => fin_tup er hp (ra.rep _) (fun hl => (fa (hl1 (k := 0) hl)).2.rep _) hq⟩
    · by_cases h1 : k = 1
      · subst h1
        refine op_repT1.w ⟨a, vs, rfl, rfl, SqT.of (er.gh _ _ ea), hq _ _ _ _ er.refl ?_⟩
        have er' : (List.replicate (1 : Int).toNat ‹List D›).flatten = ‹List D› := by simp
        rw [er']
        match h : lv2 .mul l m with
        | 0 => exact Rep.tup ea ra
        | j + 1 =>
          have t := fa (hl1 (k := 0) (by rw [h]; omega))
          exact Rep.lv er.fg _ (.tup t.1 t.2)
      · have h0 : k = 0 := by omega
        subst h0
        refine op_repT0.w ⟨a, vs, rfl, rfl, SqT.of (er.gh _ _ ea), hne, fun p hp => ?_⟩
        have er' : (List.replicate (0 : Int).toNat ‹List D›).flatten = [] := by simp
        rw [er'] at hq
        exact fin_tup er hp .nil (fun _ => .nil) hq
theorem pr_eq (hu : X.A.units + 64 < cLine) : Pr2 X z .eq (compareOp .Eq) := by
  intro σ H F G env n x y d e r l m Q er hx hy hs hq
  have h : isEq d e = some (eqv d e) ∧ shp deep d = true ∧ shp deep e = true ∧ r = .bl (eqv d e) := by
    have hs' : (isEq d e).map D.bl = some r := by cases d <;> cases e <;> exact hs
    unfold isEq at hs' ⊢
    split at hs'
    · rename_i hc
      simp only [Bool.and_eq_true] at hc
      simp only [Option.map_some, Option.some.injEq] at hs'
      exact ⟨by simp [hc], hc.1, hc.2, hs'.symm⟩
    · cases hs'
  obtain ⟨_, h1, h2, rfl⟩ := h
  refine (op_eqD hu).w ⟨toPy d, toPy e, (hx.g er.fg).dp er.gh h1, (hy.g er.fg).dp er.gh h2, shp_shaped (by decide) h1, shp_shaped (by decide) h2, ?_⟩
  rw [eqv_py h1 h2]
  exact fin_same er (.bl _) hq
theorem pr_ne (hu : X.A.units + 64 < cLine) : Pr2 X z .ne (compareOp .NotEq) := by
  intro σ H F G env n x y d e r l m Q er hx hy hs hq
  have h : shp deep d = true ∧ shp deep e = true ∧ r = .bl (!eqv d e) := by
    have hs' : (isEq d e).map (fun b => D.bl (!b)) = some r := by cases d <;> cases e <;> exact hs
    unfold isEq at hs'
    split at hs'
    · rename_i hc
      simp only [Bool.and_eq_true] at hc
      simp only [Option.map_some, Option.some.injEq] at hs'
      exact ⟨hc.1, hc.2, hs'.symm⟩
    · cases hs'
  obtain ⟨h1, h2, rfl⟩ := h
  refine (op_neD hu).w ⟨toPy d, toPy e, (hx.g er.fg).dp er.gh h1, (hy.g er.fg).dp er.gh h2, shp_shaped (by decide) h1, shp_shaped (by decide) h2, ?_⟩
  rw [eqv_py h1 h2]
  exact fin_same er (.bl _) hq
theorem pr_lt : Pr2 X z .lt (compareOp .Lt) := by
  intro σ H F G env n x y d e r l m Q er hx hy hs hq
  unfold sem2 at hs
  split at hs <;> try (first | contradiction | (rename_i h1 h2 h3; cases h1; done))
  · cases hs
    exact op_lt.w ⟨_, _, lvInt er.fg hx, lvInt er.fg hy, fin_same er (.bl _) hq⟩
  · cases hs
    exact op_lt_str.w ⟨_, _, lvStr er.fg hx, lvStr er.fg hy, fin_same er (.bl _) hq⟩
theorem pr_le : Pr2 X z .le (compareOp .LtE) := by
  intro σ H F G env n x y d e r l m Q er hx hy hs hq
  unfold sem2 at hs
  split at hs <;> try (first | contradiction | (rename_i h1 h2 h3; cases h1; done))
  cases hs
  exact op_le.w ⟨_, _, lvInt er.fg hx, lvInt er.fg hy, fin_same er (.bl _) hq⟩
theorem pr_gt : Pr2 X z .gt (compareOp .Gt) := by
  intro σ H F G env n x y d e r l m Q er hx hy hs hq
  unfold sem2 at hs
  split at hs <;> try (first | contradiction | (rename_i h1 h2 h3; cases h1; done))
  cases hs
  exact op_gt.w ⟨_, _, lvInt er.fg hx, lvInt er.fg hy, fin_same er (.bl _) hq⟩
theorem pr_ge : Pr2 X z .ge (compareOp .GtE) := by
  intro σ H F G env n x y d e r l m Q er hx hy hs hq
  unfold sem2 at hs
  split at hs <;> try (first | contradiction | (rename_i h1 h2 h3; cases h1; done))
  cases hs
  exact op_ge.w ⟨_, _, lvInt er.fg hx, lvInt er.fg hy, fin_same er (.bl _) hq⟩
theorem repL_flat {zc : Cn} {G : Hp} : ∀ {vs : List V} {ds : List D}, RepL zc G vs ds → ds.all flat = true → vs.all flatV = true
  | _, _, .nil, _ => rfl
  | _, _, .cons a t, h => by
    simp only [List.all_cons, Bool.and_eq_true] at h ⊢
    refine ⟨?_, repL_flat t h.2⟩
    cases a <;> first | rfl | (simp [flat] at h)
theorem rep_flat {zc : Cn} {G : Hp} {v : V} {d : D} (a : Rep zc G v d) (h : flat d = true) : flatV v = true := by
  cases a <;> first | rfl | (simp [flat] at h)
theorem eqV_flat {zc : Cn} {G : Hp} {v w : V} {d e : D} (a : Rep zc G v d) (b : Rep zc G w e) (h : flat d = true) (k : flat e = true) : eqV v w = eqv d e := by
  cases a <;> first | (simp [flat] at h; done) | skip
  all_goals (cases b <;> first | (simp [flat] at k; done) | skip)
  all_goals simp [eqV, eqv]
theorem inV_flat {zc : Cn} {G : Hp} {w : V} {e : D} (b : Rep zc G w e) (k : flat e = true) : ∀ {vs : List V} {ds : List D}, RepL zc G vs ds → ds.all flat = true → inV w vs = ds.any fun y => eqv y e
  | _, _, .nil, _ => rfl
  | _, _, .cons a t, h => by
    simp only [List.all_cons, Bool.and_eq_true] at h
    have := inV_flat b k t h.2
    simp only [inV] at this
    simp only [inV, List.any_cons, eqV_flat a b h.1 k, this]
theorem one_sign {x : Str} {c : Nat} (h : x.cps.toList = [c]) : x = ⟨#[c]⟩ := by
  obtain ⟨⟨l⟩⟩ := x
  have h' : l = [c] := h
  rw [h']
theorem op_inDT (hu : X.A.units + 65 < cLine) : OpR X (compareOp .In) (fun x y H Q => ∃ d ds, Dp X.K H x d ∧ Dp X.K H y (.tuple ds) ∧ SeqAt.shaped d = true ∧ SeqAt.shaped (.list ds) = true ∧ Q (.bl (ds.any fun z => PyData.eqv z d)) H) := by
  intro pins s σ H x y v u Q I rx ry h
  obtain ⟨d, ds, hd, he, sd, se, q⟩ := h
  obtain ⟨as, r1⟩ := Dp.reads I d x v hd rx
  obtain ⟨bs, r2⟩ := Dp.reads I (.tuple ds) y u he ry
  exact SeqAt.in_tuple_reads r2 r1 (SeqAt.canLay_of_shaped se) (SeqAt.canLay_of_shaped sd) (room_in_shaped sd hu) ⟨.bl _, H, I, rfl, q⟩
theorem pr_in (hu : X.A.units + 65 < cLine) : Pr2 X z .in_ (compareOp .In) := by
  intro σ H F G env n x y d e r l m Q er hx hy hs hq
  unfold sem2 at hs
  split at hs <;> try (first | contradiction | (rename_i h1 h2 h3; cases h1; done))
  · split at hs <;> cases hs
    rename_i hc
    simp only [Bool.and_eq_true] at hc
    have hl : shp (deep + 1) (.lst (by assumption)) = true := by simpa [shp] using hc.2
    refine (op_inD hu).w ⟨toPy _, toPys _, (hx.g er.fg).dp er.gh hc.1, by simpa [toPy] using (hy.g er.fg).dp er.gh hl, shp_shaped (by decide) hc.1, shpAll_shaped (by decide) hc.2, ?_⟩
    rw [any_py hc.1 hc.2]
    exact fin_same er (.bl _) hq
  · split at hs
    · cases hs
      rename_i hc
      simp only [Bool.and_eq_true] at hc
      obtain ⟨b, us, rfl, eb, rb, _⟩ := lvTup er.fg hy
      refine op_in_seq.w ⟨b, us, rfl, .inr (SqT.of (er.gh _ _ eb)), rep_flat (hx.g er.fg) hc.1, repL_flat rb hc.2, ?_⟩
      have := inV_flat (hx.g er.fg) hc.1 rb hc.2
      simp only [Bool.false_eq_true, if_false, this]
      exact fin_same er (.bl _) hq
    · split at hs <;> cases hs
      rename_i hc
      simp only [Bool.and_eq_true] at hc
      have hl : shp (deep + 1) (.tup (by assumption)) = true := by simpa [shp] using hc.2
      refine (op_inDT hu).w ⟨toPy _, toPys _, (hx.g er.fg).dp er.gh hc.1, by simpa [toPy] using (hy.g er.fg).dp er.gh hl, shp_shaped (by decide) hc.1, shpAll_shaped (by decide) hc.2, ?_⟩
      rw [any_py hc.1 hc.2]
      exact fin_same er (.bl _) hq
  · split at hs <;> cases hs
    rename_i i kvs _ hc
    obtain ⟨a, o, rfl, g, _, ro, _⟩ := dget_ok (ds := kvs) (k := .tup i) er.fg er.gh (by simp only [dicOf, if_pos hc]) hy hx
    refine (op_din (by omega)).w ⟨a, o, rfl, g, ?_⟩
    rw [ro.isSome]
    exact fin_same er (.bl _) hq
  · split at hs <;> cases hs
    rename_i c hc
    have e := one_sign hc
    subst e
    exact op_in_sign.w ⟨c, _, lvStr er.fg hx, lvStr er.fg hy, fin_same er (.bl _) hq⟩
theorem pr_nin (hu : X.A.units + 65 < cLine) : Pr2 X z .nin (compareOp .NotIn) := by
  intro σ H F G env n x y d e r l m Q er hx hy hs hq
  unfold sem2 at hs
  split at hs <;> try (first | contradiction | (rename_i h1 h2 h3; cases h1; done))
  · split at hs <;> cases hs
    rename_i hc
    simp only [Bool.and_eq_true] at hc
    have hl : shp (deep + 1) (.lst (by assumption)) = true := by simpa [shp] using hc.2
    refine (op_notInD hu).w ⟨toPy _, toPys _, (hx.g er.fg).dp er.gh hc.1, by simpa [toPy] using (hy.g er.fg).dp er.gh hl, shp_shaped (by decide) hc.1, shpAll_shaped (by decide) hc.2, ?_⟩
    rw [any_py hc.1 hc.2]
    exact fin_same er (.bl _) hq
  · split at hs <;> cases hs
    rename_i hc
    simp only [Bool.and_eq_true] at hc
    obtain ⟨b, us, rfl, eb, rb, _⟩ := lvTup er.fg hy
    refine op_notIn_seq.w ⟨b, us, rfl, .inr (SqT.of (er.gh _ _ eb)), rep_flat (hx.g er.fg) hc.1, repL_flat rb hc.2, ?_⟩
    have := inV_flat (hx.g er.fg) hc.1 rb hc.2
    simp only [if_true, this]
    exact fin_same er (.bl _) hq
  · split at hs <;> cases hs
    rename_i i kvs _ hc
    obtain ⟨a, o, rfl, g, _, ro, _⟩ := dget_ok (ds := kvs) (k := .tup i) er.fg er.gh (by simp only [dicOf, if_pos hc]) hy hx
    refine (op_dnin (by omega)).w ⟨a, o, rfl, g, ?_⟩
    rw [ro.isSome]
    exact fin_same er (.bl _) hq
  · split at hs <;> cases hs
    rename_i c hc
    have e := one_sign hc
    subst e
    exact op_notIn_sign.w ⟨c, _, lvStr er.fg hx, lvStr er.fg hy, fin_same er (.bl _) hq⟩
end
end L2.Ms

/-! # Mso: sorted, min of plain data -/
namespace L2.Ms
open PySem PySem.Spec PyProof.Rows Mv
/-! ### the order, told by the data's -/
mutual
theorem alk_py : ∀ d e : D, alk d e = true → PySem.W.alike (toPy d) (toPy e) = true
  | .int _, .int _, _ => by simp [toPy, PySem.W.alike]
  | .str _, .str _, _ => by simp [toPy, PySem.W.alike]
  | .lst xs, .lst ys, h => by simp only [toPy, PySem.W.alike]; exact alkAll_py xs ys (by simpa [alk] using h)
  | .tup xs, .tup ys, h => by simp only [toPy, PySem.W.alike]; exact alkAll_py xs ys (by simpa [alk] using h)
  | .non, e, h => by simp [alk] at h
  | .bl _, e, h => by simp [alk] at h
  | .dic _, e, h => by simp [alk] at h
  | .exc _, e, h => by simp [alk] at h
  | .scr _, e, h => by simp [alk] at h
  | .town, e, h => by simp [alk] at h
  | .int _, .non, h => by simp [alk] at h
  | .int _, .bl _, h => by simp [alk] at h
  | .int _, .str _, h => by simp [alk] at h
  | .int _, .lst _, h => by simp [alk] at h
  | .int _, .tup _, h => by simp [alk] at h
  | .int _, .dic _, h => by simp [alk] at h
  | .int _, .exc _, h => by simp [alk] at h
  | .int _, .scr _, h => by simp [alk] at h
  | .int _, .town, h => by simp [alk] at h
  | .str _, .non, h => by simp [alk] at h
  | .str _, .bl _, h => by simp [alk] at h
  | .str _, .int _, h => by simp [alk] at h
  | .str _, .lst _, h => by simp [alk] at h
  | .str _, .tup _, h => by simp [alk] at h
  | .str _, .dic _, h => by simp [alk] at h
  | .str _, .exc _, h => by simp [alk] at h
  | .str _, .scr _, h => by simp [alk] at h
  | .str _, .town, h => by simp [alk] at h
  | .lst _, .non, h => by simp [alk] at h
  | .lst _, .bl _, h => by simp [alk] at h
  | .lst _, .int _, h => by simp [alk] at h
  | .lst _, .str _, h => by simp [alk] at h
  | .lst _, .tup _, h => by simp [alk] at h
  | .lst _, .dic _, h => by simp [alk] at h
  | .lst _, .exc _, h => by simp [alk] at h
  | .lst _, .scr _, h => by simp [alk] at h
  | .lst _, .town, h => by simp [alk] at h
  | .tup _, .non, h => by simp [alk] at h
  | .tup _, .bl _, h => by simp [alk] at h
  | .tup _, .int _, h => by simp [alk] at h
  | .tup _, .str _, h => by simp [alk] at h
  | .tup _, .lst _, h => by simp [alk] at h
  | .tup _, .dic _, h => by simp [alk] at h
  | .tup _, .exc _, h => by simp [alk] at h
  | .tup _, .scr _, h => by simp [alk] at h
  | .tup _, .town, h => by simp [alk] at h
theorem alkAll_py : ∀ ds es : List D, alkAll ds es = true → PySem.W.alikeAll (toPys ds) (toPys es) = true
  | [], es, _ => by simp [toPys, PySem.W.alikeAll]
  | _ :: _, [], _ => by simp [toPys, PySem.W.alikeAll]
  | x :: xs, y :: ys, h => by
    have h : alk x y = true ∧ alkAll xs ys = true := by simpa [alkAll] using h
    simp only [toPys, PySem.W.alikeAll, alk_py x y h.1, alkAll_py xs ys h.2, Bool.and_self]
end
mutual
theorem lt_py : ∀ (k : Nat) (d e : D), shp k d = true → shp k e = true → alk d e = true → PySem.W.dataLt (toPy d) (toPy e) = ltD d e
  | k, d, e, h1, h2, h => by
    cases d <;> cases e <;> try (simp [alk] at h; done)
    · simp only [toPy, PySem.W.dataLt_int, ltD]
    · simp only [toPy, PySem.W.dataLt_str, ltD]
    · rename_i xs ys
      cases k with
      | zero => simp [shp] at h1
      | succ k =>
        simp only [toPy, PySem.W.dataLt_list, ltD]
        exact ltAll_py k xs ys (by simpa [shp] using h1) (by simpa [shp] using h2) (by simpa [alk] using h)
    · rename_i xs ys
      cases k with
      | zero => simp [shp] at h1
      | succ k =>
        simp only [toPy, PySem.W.dataLt_tuple, ltD]
        exact ltAll_py k xs ys (by simpa [shp] using h1) (by simpa [shp] using h2) (by simpa [alk] using h)
theorem ltAll_py : ∀ (k : Nat) (ds es : List D), shpAll k ds = true → shpAll k es = true → alkAll ds es = true → PyProof.Rows.lexLt itemOrd (PySem.W.keyToksAll (toPys ds)) (PySem.W.keyToksAll (toPys es)) = ltAll ds es
  | k, [], [], _, _, _ => by simp only [toPys, ltAll]; exact PyProof.Rows.lex_irrefl _
  | k, [], _ :: _, _, _, _ => by
    simp only [toPys, ltAll]
    rw [PySem.W.toks_all_cons]
    simp only [PySem.W.keyToksAll]
    rw [PyProof.Rows.lex_diff (O := itemOrd) (by simp)]
    rfl
  | k, _ :: _, [], _, _, _ => by
    simp only [toPys, ltAll]
    rw [PySem.W.toks_all_cons]
    simp only [PySem.W.keyToksAll]
    rw [PyProof.Rows.lex_diff (O := itemOrd) (by simp)]
    rfl
  | k, x :: xs, y :: ys, h1, h2, h => by
    have h : alk x y = true ∧ alkAll xs ys = true := by simpa [alkAll] using h
    have h1 : shp k x = true ∧ shpAll k xs = true := by simpa [shpAll] using h1
    have h2 : shp k y = true ∧ shpAll k ys = true := by simpa [shpAll] using h2
    simp only [toPys, ltAll]
    rw [PySem.W.dataLt_cons (alk_py x y h.1), eqv_py h1.1 h2.1, ltAll_py k xs ys h1.2 h2.2 h.2, lt_py k x y h1.1 h2.1 h.1]
end
section
variable {X : Cx}
def rSortedD (K : PySem.W.Frag) : List V → Hp → VK → Prop := fun vs H Q => ∃ (a : Addr) (bs : List (V × D)), vs = [V.ref a] ∧ SqL K H a (bs.map Prod.fst) ∧ (∀ b ∈ bs, Dp K H b.1 (toPy b.2)) ∧ PySem.W.AllAlike (bs.map fun b => toPy b.2) ∧ PySem.W.Sortable (bs.map fun b => toPy b.2) ∧ (∀ b ∈ bs, (toPy b.2).depth ≤ 60) ∧
  ∀ p, H p = none → Q (.ref p) (upd H p (.lst ((bs.mergeSort (PySem.W.dataLe false fun b => toPy b.2)).map Prod.fst)))
theorem each_vals : ∀ {bs : List (V × D)} {us : List Value}, Vals (bs.map Prod.fst) us → PySem.W.EachIs (fun (v : Value) (b : V × D) => RelV b.1 v) us bs
  | [], us, h => by cases h; exact .nil
  | b :: r, us, h => by
    cases h with
    | cons a t => exact .cons a (each_vals t)
theorem vals_each : ∀ {bs : List (V × D)} {us : List Value}, PySem.W.EachIs (fun (v : Value) (b : V × D) => RelV b.1 v) us bs → Vals (bs.map Prod.fst) us
  | [], us, h => by cases h; exact .nil
  | b :: r, us, h => by
    cases h with
    | cons a t => exact .cons a (vals_each t)
theorem each_reads {pins : List (Addr × Obj)} {σ : St} {H : Hp} {s : Shared} (I : Inv X pins σ H s) : ∀ {bs : List (V × D)} {us : List Value}, (∀ b ∈ bs, Dp X.K H b.1 (toPy b.2)) → Vals (bs.map Prod.fst) us → PySem.W.EachIs (fun (v : Value) (b : V × D) => ∃ as, Reads s.heap v (toPy b.2) as) us bs
  | [], us, _, h => by cases h; exact .nil
  | b :: r, us, hd, h => by
    cases h with
    | cons a t => exact .cons (Dp.reads I _ _ _ (hd b List.mem_cons_self) a) (each_reads I (fun c hc => hd c (List.mem_cons_of_mem _ hc)) t)
theorem cr_sortedD (hu : X.A.units + 64 < cLine) : CallR X (.builtin "sorted") (rSortedD X.K) := by
  intro pins s σ H vs us Q I r h
  obtain ⟨a, bs, rfl, hs, hd, hal, hk, hdep, q⟩ := h
  obtain ⟨its, rv, hl, hz⟩ := I.list hs
  rw [Vals.ref1 r]
  have hb : bs.length ≤ sizeLine := by rw [List.length_map] at hz; exact hz
  refine PySem.W.sorted_data (R := fun (v : Value) (b : V × D) => RelV b.1 v) (enc := fun b : V × D => toPy b.2) hl.isList (each_vals rv) (each_reads I hd rv) hal hk hb (fun b hb => by have := hdep b hb; show X.A.units + 2 + (toPy b.2).depth < cLine; omega) fun out ho eo => ?_
  obtain ⟨ep, he'⟩ := PyProof.Rows.sortedAll_at s.heap its out.toArray
  have hlen : ((bs.mergeSort (PySem.W.dataLe false fun b => toPy b.2)).map Prod.fst).length ≤ sizeLine := by
    rw [List.length_map, List.length_mergeSort]; exact hb
  exact ⟨.ref _, upd H (s.heap.objs.size + 1) (.lst ((bs.mergeSort (PySem.W.dataLe false fun b => toPy b.2)).map Prod.fst)), I.laid (t' := s.toks) (fun _ _ => PyProof.Rows.sortedAll_old) (Nat.le_succ _) ⟨hlen, out, ep, vals_each eo, he'⟩, rfl, q _ (I.hok.fresh (Nat.le_succ _))⟩
def rMinD (K : PySem.W.Frag) : List V → Hp → VK → Prop := fun vs H Q => ∃ (a : Addr) (b : V × D) (bs : List (V × D)), vs = [V.ref a] ∧ SqL K H a ((b :: bs).map Prod.fst) ∧ (∀ c ∈ b :: bs, Dp K H c.1 (toPy c.2)) ∧ PySem.W.AlikeAll ((b :: bs).map fun c => toPy c.2) ∧ PyData.depthAll ((b :: bs).map fun c => toPy c.2) ≤ 60 ∧
  ∀ c ∈ b :: bs, toPy c.2 = PySem.W.minD (toPy b.2) (bs.map fun c => toPy c.2) → Q c.1 H
theorem dpAll_of {K : PySem.W.Frag} {H : Hp} : ∀ {bs : List (V × D)}, (∀ c ∈ bs, Dp K H c.1 (toPy c.2)) → DpAll K H (bs.map Prod.fst) (bs.map fun c => toPy c.2)
  | [], _ => .nil
  | b :: r, h => .cons (h b List.mem_cons_self) (dpAll_of fun c hc => h c (List.mem_cons_of_mem _ hc))
theorem cr_minD (hc : X.calm = true) (hu : X.A.units + 64 < cLine) : CallR X (.builtin "min") (rMinD X.K) := by
  intro pins s σ H vs us Q I r h
  obtain ⟨a, b, bs, rfl, hs, hd, hal, hdep, q⟩ := h
  obtain ⟨its, rv, hl, hz⟩ := I.list hs
  rw [Vals.ref1 r]
  obtain ⟨as, hr⟩ := Dp.readsAll I _ _ _ (dpAll_of hd) rv
  refine PySem.W.min_list_data (x := toPy b.2) (xs := bs.map fun c : V × D => toPy c.2) (I.ok.hd hc) hl.isList (by simpa using hr) hal (by have e := hdep; rw [List.map_cons] at e; omega) fun i v h' tk bs' hv hread hk => ?_
  have hv' : its[i]? = some v := by simpa using hv
  have hi : i < ((b :: bs).map Prod.fst).length := by
    rw [rv.length]
    exact (List.getElem?_eq_some_iff.mp hv').1
  rw [List.length_map] at hi
  have hx : ((b :: bs).map Prod.fst)[i]? = some ((b :: bs)[i]).1 := by rw [List.getElem?_map, List.getElem?_eq_getElem hi]; rfl
  obtain ⟨u, hu1, hu2⟩ := Vals.get rv hx
  rw [hv'] at hu1
  cases hu1
  have hm : (b :: bs)[i] ∈ b :: bs := List.getElem_mem hi
  obtain ⟨as2, r2⟩ := Dp.reads I _ _ _ (hd _ hm) hu2
  have e := (PyProof.Rows.reads_det (fun b o e _ => hk b o e) r2 hread).1
  exact ⟨((b :: bs)[i]).1, H, I.kept hk, hu2, q _ hm e.symm⟩
/-! ### min(a, b) -/
end
section
variable {prog : Program} {w : World} {A : Around} {E : Value → Shared → Prop} {s : Shared}
open PySem.W in
theorem call_min_two_walkH {a b : Value} {Q : Value → Shared → Prop}
    (h : wpAny (model prog w) A.in1 (pyIter (.ref s.heap.objs.size)) (fun it s₂ => ∃ I fp wr G n P St H bt, it = .ref I ∧ WalksS prog w A.in1 I fp wr G n P St ∧ St 0 s₂ ∧ (∀ b ∈ fp, b < s₂.heap.objs.size) ∧ 0 < n ∧
      (∀ b o, H.get? b = some o → b ∉ wr) ∧ (∀ b o, H.get? b = some o → s₂.heap.get? b = some o) ∧ CmpIn prog w A.in1 .Lt H P bt ∧ ∀ v s', P (argBest bt (n - 1)) v → Moved wr G s₂ s' → Q v s') E
      { s with heap := s.heap.push { cls := .type "tuple", data := .seq #[a, b] } }) :
    wpAny (model prog w) A (call (.builtin "min") [a, b]) Q E s := by
  have hname : (toString "min" ++ toString ".loop" : String) = "min.loop" := by decide
  refine call_function_tree F.kind_min F.plain_min F.entry_min (F.args_min2 _ _) ?_
  show wpAny _ A.in1 (Builtin.Builtins.bindParams "min" ["key", "default"] 0 ⟨[], []⟩ >>= _) _ _ s
  refine wpAny_bind (wpAny_of_eq (show Builtin.Builtins.bindParams "min" ["key", "default"] 0 ⟨[], []⟩ = pure [none, none] from rfl) ?_)
  show wpAny _ A.in1 (newTuple [a, b] >>= _) _ _ s
  refine wpAny_bind (wpAny_newObj_type ?_)
  refine wpAny_bind (wpAny_mono h (fun it s₂ h₂ => ?_) fun _ _ e => e)
  obtain ⟨I, fp, wr, G, n, P, St, H, bt, rfl, W, hst, hfp, hn, hw, hkeep, hcmp, hQ⟩ := h₂
  refine wpAny_bind (wpAny_newObj_type ?_)
  have hSf : s₂.heap.objs.size ∉ fp := fun hm => Nat.lt_irrefl _ (hfp _ hm)
  rw [hname]
  refine wpAny_pure ⟨plainId_quiet F.plain_min_loop _, codeAny_min_loop_firstH W H hw bt hcmp s₂.heap.objs.size hSf (fresh_in hkeep) _ hn (fun b o e => Heap.get?_push_of_some _ (hkeep b o e)) (W.frame 0 s₂ _ s₂.toks hst (Nat.le_refl _) fun b _ o e => Heap.get?_push_of_some _ e) (Heap.get?_push_size _ rfl) fun v s' hP hm => ?_⟩
  exact hQ v s' hP (Moved.drop_new (tk := s₂.toks) hm (Nat.le_refl _))
open PySem.W in
theorem min_two_data {a b : Value} {x y : PyData} {as : List Addr} {Q : Value → Shared → Prop} (hh : A.handled = none) (hr : ReadsAll s.heap [a, b] [x, y] as) (ha : AlikeAll [x, y]) (hu : A.units + 1 + PyData.depthAll [x, y] < cLine)
    (h : ∀ (i : Nat) v h' tk bs, ([a, b] : List Value)[i]? = some v → Reads h' v (minD x [y]) bs → (∀ b o, s.heap.get? b = some o → h'.get? b = some o) → Q v { s with heap := h', toks := tk }) :
    wpAny (model prog w) A (call (.builtin "min") [a, b]) Q E s := by
  have hT : (s.heap.push { cls := .type "tuple", data := .seq #[a, b] }).IsTuple s.heap.objs.size #[a, b] := ⟨_, Heap.get?_push_size _ rfl, rfl, 0, rfl⟩
  have k0 : ∀ b' o, s.heap.get? b' = some o → (s.heap.push { cls := .type "tuple", data := .seq #[a, b] }).get? b' = some o := fun b' o e => Heap.get?_push_of_some _ e
  have hr' : ReadsAll (s.heap.push { cls := .type "tuple", data := .seq #[a, b] }) (#[a, b] : Array Value).toList [x, y] as := ReadsAll.keeps k0 hr
  refine call_min_two_walkH (iter_tupleW (s := { s with heap := s.heap.push { cls := .type "tuple", data := .seq #[a, b] } }) (A := A.in1) hh hT fun s₂ e W st hfp hw hk => ?_)
  refine ⟨_, _, _, _, _, _, _, s.heap.push { cls := .type "tuple", data := .seq #[a, b] }, _, rfl, W, st, hfp, (show 0 < 2 by omega), hw, hk, cmpIn_lt (s := { s with heap := s.heap.push { cls := .type "tuple", data := .seq #[a, b] } }) (A := A.in1) hr' ha (by show A.units + 1 + _ < _; exact hu), fun v s' hP m => ?_⟩
  obtain ⟨h', tk, rfl, hk'⟩ := moved_old e rfl m
  obtain ⟨bs, r, _, _, _⟩ := readsAll_atA hr' _ v hP
  have e2 := (argBest_fold dataLt PyData.none x [y] 1 (Nat.le_refl _)).2
  have e1 : (#[a, b] : Array Value).size - 1 = 1 := rfl
  rw [e1] at r
  refine h _ v h' tk bs (by simpa using hP) (reads_keeps hk' (by unfold minD; rw [show List.take 1 [y] = [y] from rfl] at e2; rw [← e2]; exact r)) fun b' o e' => hk' b' o (k0 b' o e')
end
section
variable {X : Cx}
def rMin2D (K : PySem.W.Frag) : List V → Hp → VK → Prop := fun vs H Q => ∃ (b c : V × D), vs = [b.1, c.1] ∧ Dp K H b.1 (toPy b.2) ∧ Dp K H c.1 (toPy c.2) ∧ PySem.W.AlikeAll [toPy b.2, toPy c.2] ∧ PyData.depthAll [toPy b.2, toPy c.2] ≤ 60 ∧
  ∀ e ∈ [b, c], toPy e.2 = PySem.W.minD (toPy b.2) [toPy c.2] → Q e.1 H
theorem cr_min2D (hc : X.calm = true) (hu : X.A.units + 64 < cLine) : CallR X (.builtin "min") (rMin2D X.K) := by
  intro pins s σ H vs us Q I r h
  obtain ⟨b, c, rfl, hb, hd, hal, hdep, q⟩ := h
  obtain ⟨u, w, rfl, ru, rw'⟩ := vals2 r
  obtain ⟨as, hr⟩ := Dp.readsAll I [toPy b.2, toPy c.2] [b.1, c.1] [u, w] (.cons hb (.cons hd .nil)) (.cons ru (.cons rw' .nil))
  refine min_two_data (I.ok.hd hc) hr hal (by omega) fun i v h' tk bs' hv hread hk => ?_
  match i, hv with
  | 0, hv =>
    cases hv
    obtain ⟨as2, r2⟩ := Dp.reads I _ _ _ hb ru
    have e := (PyProof.Rows.reads_det (fun b o e _ => hk b o e) r2 hread).1
    exact ⟨b.1, H, I.kept hk, ru, q b (by simp) e.symm⟩
  | 1, hv =>
    cases hv
    obtain ⟨as2, r2⟩ := Dp.reads I _ _ _ hd rw'
    have e := (PyProof.Rows.reads_det (fun b o e _ => hk b o e) r2 hread).1
    exact ⟨c.1, H, I.kept hk, rw', q c (by simp) e.symm⟩
  | i + 2, hv => simp at hv
end
end L2.Ms

namespace L2.Ms
open PySem PySem.Spec PyProof.Rows Mv

def wC (X : Cx) (f : Value) : List V → Hp → VK → Prop := fun vs H Q => ∀ (pins : List (Addr × Obj)) (s : Shared) (σ : St) (us : List Value), Inv X pins σ H s → Vals vs us → wpAny (model X.prog X.w) X.A (call f us) (EP X pins σ Q) X.xe s
theorem wCR {X : Cx} {f : Value} : CallR X f (wC X f) := fun pins s σ H xs us Q I r h => h pins s σ us I r
theorem _root_.L2.CallR.w {X : Cx} {f : Value} {r : List V → Hp → VK → Prop} (h : CallR X f r) {xs : List V} {H : Hp} {Q : VK} (q : r xs H Q) : wC X f xs H Q := fun pins s σ us I v => h pins s σ H xs us Q I v q
def wM (X : Cx) (id : String) : V → List V → Hp → VK → Prop := fun x vs H Q => ∀ (pins : List (Addr × Obj)) (s : Shared) (σ : St) (v : Value) (us : List Value), Inv X pins σ H s → RelV x v → Vals vs us → wpAny (model X.prog X.w) X.A (call (.builtin id) (v :: us)) (EP X pins σ Q) X.xe s
theorem wMR {X : Cx} {id : String} : MtR X id (wM X id) := fun pins s σ H x xs v us Q I r1 r h => h pins s σ v us I r1 r
theorem _root_.L2.MtR.w {X : Cx} {id : String} {r : V → List V → Hp → VK → Prop} (h : MtR X id r) {x : V} {xs : List V} {H : Hp} {Q : VK} (q : r x xs H Q) : wM X id x xs H Q := fun pins s σ v us I r1 r => h pins s σ H x xs v us Q I r1 r q

section
variable {X : Cx} {z : Fx} {S : Sub}
/-- what is shown of a one-place piece that is a call -/
def Pr1 (X : Cx) (z : Fx) (S : Sub) (p : P1) (f : Value) (more : List V) : Prop := ∀ {σ : St} {H F G : Hp} {env : Ev} {n : Nat} {x : V} {d r : D} {l : Nat} {Q : VK},
  ER z σ H F G env n → RepLv z.toCn l F G x d → sem1 S p n d = some r →
  (∀ v H' F' G', Step z H F G H' F' G' n → RepLv z.toCn (lv1 p l) F' G' v r → Q v H') → wC X f (x :: more) H Q

theorem p_len (hK : X.K = z.K) : Pr1 X z S .len (.builtin "len") [] := by
  intro σ H F G env n x d r l Q er hx hs hq
  unfold sem1 at hs
  split at hs <;> try (first | contradiction | (rename_i h1 h2; cases h1; done))
  · cases hs
    obtain ⟨a, vs, rfl, ea, ra, fa⟩ := lvLst er.fg hx
    refine call_len_seq.w ⟨a, vs, rfl, .inl (SqL.of (er.gh _ _ ea)), ?_⟩
    rw [ra.length]
    exact fin_same er (.int _) hq
  · cases hs
    obtain ⟨a, vs, rfl, ea, ra, fa⟩ := lvTup er.fg hx
    refine call_len_seq.w ⟨a, vs, rfl, .inr (SqT.of (er.gh _ _ ea)), ?_⟩
    rw [ra.length]
    exact fin_same er (.int _) hq
  · split at hs <;> cases hs
    rename_i hz
    have e := lvStr er.fg hx
    subst e
    exact call_len_str.w ⟨_, rfl, by rw [← line_eq]; exact hz, fin_same er (.int _) hq⟩
  · cases hs
    have q : Rep z.toCn G x (.scr _) := hx.g er.fg
    cases q with
    | scr e =>
      refine call_len.w ⟨_, _, rfl, .inl ⟨_, by rw [hK]; exact sqL_mono er.gh e, rfl⟩, ?_⟩
      rw [List.length_map]
      exact fin_same er (.int _) hq
  · cases hs
    have q : Rep z.toCn G x .town := hx.g er.fg
    cases q with
    | town e =>
      refine call_len_seq.w ⟨_, _, rfl, .inl (SqL.of (er.tw _ e).1), ?_⟩
      rw [List.length_replicate]
      exact fin_same er (.int _) hq
  · cases hs
    obtain ⟨a, kvs, rfl, e, ra, _⟩ := lvK er.fg (.inl rfl) hx
    refine cr_lenK.w ⟨a, kvs, rfl, e.mono er.gh, ?_⟩
    rw [ra.length]
    exact fin_same er (.int _) hq
  · cases hs
    obtain ⟨a, kvs, rfl, e, ra, _⟩ := lvK er.fg (.inr rfl) hx
    refine cr_lenK.w ⟨a, kvs, rfl, e.mono er.gh, ?_⟩
    rw [ra.length]
    exact fin_same er (.int _) hq
  · cases hs
    obtain ⟨a, kvs, rfl, e, ra, _⟩ := lvT er.fg (.inl rfl) hx
    refine cr_lenT.w ⟨a, kvs, rfl, e.mono er.gh, ?_⟩
    rw [ra.length]
    exact fin_same er (.int _) hq
  · cases hs
    obtain ⟨a, kvs, rfl, e, ra, _⟩ := lvT er.fg (.inr rfl) hx
    refine cr_lenT.w ⟨a, kvs, rfl, e.mono er.gh, ?_⟩
    rw [ra.length]
    exact fin_same er (.int _) hq
theorem bools_map : ∀ {ds : List D} {bs : List Bool}, bools ds = some bs → ds = bs.map D.bl
  | [], bs, h => by simp [bools] at h; subst h; rfl
  | d :: ds, bs, h => by
    cases d <;> simp only [bools, Option.map_eq_some_iff, reduceCtorEq] at h
    obtain ⟨cs, h1, rfl⟩ := h
    rw [bools_map h1]; rfl
theorem intsOf_map : ∀ {ds : List D} {ns : List Int}, intsOf ds = some ns → ds = ns.map D.int
  | [], bs, h => by simp [intsOf] at h; subst h; rfl
  | d :: ds, bs, h => by
    cases d <;> simp only [intsOf, Option.map_eq_some_iff, reduceCtorEq] at h
    obtain ⟨cs, h1, rfl⟩ := h
    rw [intsOf_map h1]; rfl
theorem RepL.blsV {z : Cn} {F : Hp} : ∀ {vs : List V} {ns : List Bool}, RepL z F vs (ns.map D.bl) → vs = ns.map V.bl
  | _, [], h => by cases h; rfl
  | _, n :: r, h => by
    cases h with
    | cons a t => cases a; rw [RepL.blsV t]; rfl
theorem p_all (hc : X.calm = true) : Pr1 X z S .all_ (.builtin "all") [] := by
  intro σ H F G env n x d r l Q er hx hs hq
  unfold sem1 at hs
  split at hs <;> try (first | contradiction | (rename_i h1 h2; cases h1; done))
  simp only [Option.map_eq_some_iff] at hs
  obtain ⟨bs, h1, rfl⟩ := hs
  have e := bools_map h1
  subst e
  obtain ⟨a, vs, rfl, ea, ra, fa⟩ := lvLst er.fg hx
  have e := ra.blsV
  subst e
  exact (cr_all hc).w ⟨a, bs, rfl, SqL.of (er.gh _ _ ea), fin_same er (.bl _) hq⟩
theorem p_any (hc : X.calm = true) : Pr1 X z S .any_ (.builtin "any") [] := by
  intro σ H F G env n x d r l Q er hx hs hq
  unfold sem1 at hs
  split at hs <;> try (first | contradiction | (rename_i h1 h2; cases h1; done))
  simp only [Option.map_eq_some_iff] at hs
  obtain ⟨bs, h1, rfl⟩ := hs
  have e := bools_map h1
  subst e
  obtain ⟨a, vs, rfl, ea, ra, fa⟩ := lvLst er.fg hx
  have e := ra.blsV
  subst e
  exact (cr_any hc).w ⟨a, bs, rfl, SqL.of (er.gh _ _ ea), fin_same er (.bl _) hq⟩
theorem p_sum (hc : X.calm = true) : Pr1 X z S .sum_ (.builtin "sum") [] := by
  intro σ H F G env n x d r l Q er hx hs hq
  unfold sem1 at hs
  split at hs <;> try (first | contradiction | (rename_i h1 h2; cases h1; done))
  simp only [Option.map_eq_some_iff] at hs
  obtain ⟨bs, h1, rfl⟩ := hs
  have e := intsOf_map h1
  subst e
  obtain ⟨a, vs, rfl, ea, ra, fa⟩ := lvLst er.fg hx
  have e := ra.intsV
  subst e
  exact (cr_sum hc).w ⟨a, bs, rfl, SqL.of (er.gh _ _ ea), fin_same er (.int _) hq⟩
/-! sorting -/
theorem ins1_perm {α : Type} (le : α → α → Bool) (a : α) : ∀ l : List α, (ins1 le a l).Perm (a :: l)
  | [] => .rfl
  | b :: r => by
    unfold ins1
    split
    · exact .rfl
    · exact ((ins1_perm le a r).cons b).trans (List.Perm.swap a b r)
theorem isort_perm {α : Type} (le : α → α → Bool) : ∀ l : List α, (isort le l).Perm l
  | [] => .rfl
  | a :: r => (ins1_perm le a _).trans ((isort_perm le r).cons a)
theorem ins1_sorted (a : Int) : ∀ l : List Int, l.Pairwise (· ≤ ·) → (ins1 (fun a b => decide (a ≤ b)) a l).Pairwise (· ≤ ·)
  | [], _ => by simp [ins1]
  | b :: r, h => by
    unfold ins1
    split
    · rename_i hab
      have hab : a ≤ b := of_decide_eq_true hab
      refine List.pairwise_cons.mpr ⟨fun c hc => ?_, h⟩
      rcases List.mem_cons.mp hc with rfl | hc
      · exact hab
      · exact Int.le_trans hab ((List.pairwise_cons.mp h).1 c hc)
    · rename_i hab
      have hab : ¬ a ≤ b := of_decide_eq_false (by simpa using hab)
      refine List.pairwise_cons.mpr ⟨fun c hc => ?_, ins1_sorted a r (List.pairwise_cons.mp h).2⟩
      rcases List.mem_cons.mp ((ins1_perm _ a r).mem_iff.mp hc) with rfl | hc
      · omega
      · exact (List.pairwise_cons.mp h).1 c hc
theorem sortI_sorted : ∀ l : List Int, (sortI l).Pairwise (· ≤ ·)
  | [] => .nil
  | a :: r => ins1_sorted a _ (sortI_sorted r)
theorem sortI_perm (l : List Int) : (sortI l).Perm l := isort_perm _ l
theorem sorted_unique : ∀ {l m : List Int}, l.Perm m → l.Pairwise (· ≤ ·) → m.Pairwise (· ≤ ·) → l = m
  | [], m, p, _, _ => p.nil_eq
  | a :: l, m, p, h1, h2 => by
    cases m with
    | nil => exact absurd p.length_eq (by simp)
    | cons b m =>
      have ha : a ∈ b :: m := p.mem_iff.mp List.mem_cons_self
      have hb : b ∈ a :: l := p.mem_iff.mpr List.mem_cons_self
      have e : a = b := by
        rcases List.mem_cons.mp ha with e | ha
        · exact e
        · rcases List.mem_cons.mp hb with e | hb
          · exact e.symm
          · exact Int.le_antisymm ((List.pairwise_cons.mp h1).1 b hb) ((List.pairwise_cons.mp h2).1 a ha)
      subst e
      rw [sorted_unique p.cons_inv (List.pairwise_cons.mp h1).2 (List.pairwise_cons.mp h2).2]
theorem RepL.dps {z : Cn} {G H : Hp} (l : Le G H) {K : PySem.W.Frag} {k : Nat} : ∀ {vs : List V} {ds : List D}, RepL z G vs ds → shpAll k ds = true → ∀ b ∈ vs.zip ds, Dp K H b.1 (toPy b.2)
  | _, _, .nil, _ => by simp
  | _, _, .cons a t, h => fun b hb => by
    simp only [shpAll, Bool.and_eq_true] at h
    rw [List.zip_cons_cons, List.mem_cons] at hb
    rcases hb with rfl | hb
    · exact a.dp l h.1
    · exact RepL.dps l t h.2 b hb
theorem RepL.zipped {z : Cn} {F : Hp} : ∀ {vs : List V} {ds : List D}, RepL z F vs ds → ∀ b ∈ vs.zip ds, Rep z F b.1 b.2
  | _, _, .nil => by simp
  | _, _, .cons a t => fun b hb => by
    rw [List.zip_cons_cons, List.mem_cons] at hb
    rcases hb with rfl | hb
    · exact a
    · exact RepL.zipped t b hb
theorem repL_of {z : Cn} {F : Hp} : ∀ {bs : List (V × D)}, (∀ b ∈ bs, Rep z F b.1 b.2) → RepL z F (bs.map Prod.fst) (bs.map Prod.snd)
  | [], _ => .nil
  | b :: r, h => .cons (h b List.mem_cons_self) (repL_of fun c hc => h c (List.mem_cons_of_mem _ hc))
theorem RepL.fst {z : Cn} {F : Hp} : ∀ {vs : List V} {ds : List D}, RepL z F vs ds → (vs.zip ds).map Prod.fst = vs
  | _, _, .nil => rfl
  | _, _, .cons a t => by rw [List.zip_cons_cons, List.map_cons, RepL.fst t]
theorem RepL.snd {z : Cn} {F : Hp} : ∀ {vs : List V} {ds : List D}, RepL z F vs ds → (vs.zip ds).map Prod.snd = ds
  | _, _, .nil => rfl
  | _, _, .cons a t => by rw [List.zip_cons_cons, List.map_cons, RepL.snd t]
theorem p_srt (hu : X.A.units + 64 < cLine) : Pr1 X z S .srt (.builtin "sorted") [] := by
  intro σ H F G env n x d r l Q er hx hs hq
  unfold sem1 at hs
  split at hs <;> try (first | contradiction | (rename_i h1 h2; cases h1; done))
  unfold sortD at hs
  split at hs
  · rename_i ns h1
    cases hs
    have e := intsOf_map h1
    subst e
    obtain ⟨a, vs, rfl, ea, ra, fa⟩ := lvLst er.fg hx
    have e := ra.intsV
    subst e
    refine cr_sortedI.w ⟨a, ns, rfl, SqL.of (er.gh _ _ ea), fun ns' p hp hs hn => ?_⟩
    have e : ns' = sortI ns := sorted_unique (hp.trans (sortI_perm ns).symm) hs (sortI_sorted ns)
    subst e
    exact fin_lst er hn (repL_ints _) (fun _ => repL_ints _) hq
  · split at hs <;> cases hs
    rename_i xs _ _ h1 h2
    unfold srtOk at h2
    simp only [Bool.and_eq_true, Bool.or_eq_true, List.all_eq_true] at h2
    obtain ⟨⟨h3, h4⟩, h5⟩ := h2
    obtain ⟨a, vs, rfl, ea, ra, fa⟩ := lvLst er.fg hx
    have hz : ∀ b ∈ vs.zip xs, b.2 ∈ xs := fun b hb => (List.of_mem_zip (a := b.1) (b := b.2) hb).2
    have hsh : ∀ b ∈ vs.zip xs, shp deep b.2 = true := fun b hb => shpAll_mem h3 _ (hz b hb)
    have hle : ∀ b ∈ vs.zip xs, ∀ c ∈ vs.zip xs, PySem.W.dataLe false (fun b : V × D => toPy b.2) b c = leD b.2 c.2 := fun b hb c hc => by
      rw [PySem.W.dataLe_eq]
      show (!PySem.W.dataLt (toPy c.2) (toPy b.2)) = _
      rw [lt_py deep c.2 b.2 (hsh c hc) (hsh b hb) (h4 _ (hz c hc) _ (hz b hb))]; rfl
    refine (cr_sortedD hu).w ⟨a, vs.zip xs, rfl, by rw [ra.fst]; exact SqL.of (er.gh _ _ ea), RepL.dps er.gh ra h3, ?_, ?_, fun b hb => ?_, fun p hp => ?_⟩
    · intro d hd d' hd'
      obtain ⟨b, hb, rfl⟩ := List.mem_map.mp hd
      obtain ⟨c, hc, rfl⟩ := List.mem_map.mp hd'
      exact alk_py _ _ (h4 _ (hz b hb) _ (hz c hc))
    · rcases h5 with h5 | h5
      · refine .inl fun d hd => ?_
        obtain ⟨b, hb, rfl⟩ := List.mem_map.mp hd
        have := h5 _ (hz b hb)
        cases e : b.2 with
        | tup ys =>
          cases ys with
          | nil => rw [e] at this; cases this
          | cons y r => exact ⟨toPy y, toPys r, by simp [toPy, toPys]⟩
        | _ => rw [e] at this; cases this
      · refine .inr fun d hd => ?_
        obtain ⟨b, hb, rfl⟩ := List.mem_map.mp hd
        have := h5 _ (hz b hb)
        cases e : b.2 with
        | lst ys => exact ⟨by simp [toPy], fun xs => by simp [toPy]⟩
        | str ys => exact ⟨by simp [toPy], fun xs => by simp [toPy]⟩
        | _ => rw [e] at this; cases this
    · have := shp_shaped (k := deep) (by decide) (hsh b hb)
      have q := shp_lay (hsh b hb)
      have : deep = 20 := rfl
      omega
    · have e : (((vs.zip xs).mergeSort (PySem.W.dataLe false fun b : V × D => toPy b.2)).map Prod.snd) = xs.mergeSort leD := by
        rw [PySem.W.sort_maps (s := leD) Prod.snd hle, ra.snd]
      have mem : ∀ b ∈ (vs.zip xs).mergeSort (PySem.W.dataLe false fun b : V × D => toPy b.2), b ∈ vs.zip xs := fun b hb => (List.mergeSort_perm _ _).mem_iff.mp hb
      rw [← e] at hq
      exact fin_lst er hp (repL_of fun b hb => ra.zipped b (mem b hb)) (fun hl => repL_of fun b hb => (fa (by
        have : 1 ≤ lv1 .srt l := hl
        unfold lv1 at this
        simp only at this
        split at this <;> omega)).zipped b (mem b hb)) hq
mutual
theorem toPy_inj : ∀ (k : Nat) (d e : D), shp k d = true → shp k e = true → toPy d = toPy e → d = e
  | k, d, e, h1, h2, h => by
    cases d <;> cases e <;> try (first | (cases k <;> simp [shp] at h1; done) | (cases k <;> simp [shp] at h2; done) | (simp [toPy] at h; done) | rfl | (simp only [toPy] at h; cases h; rfl))
    · rename_i xs ys
      cases k with
      | zero => simp [shp] at h1
      | succ k =>
        simp only [toPy, PyData.list.injEq] at h
        rw [toPys_inj k xs ys (by simpa [shp] using h1) (by simpa [shp] using h2) h]
    · rename_i xs ys
      cases k with
      | zero => simp [shp] at h1
      | succ k =>
        simp only [toPy, PyData.tuple.injEq] at h
        rw [toPys_inj k xs ys (by simpa [shp] using h1) (by simpa [shp] using h2) h]
theorem toPys_inj : ∀ (k : Nat) (d e : List D), shpAll k d = true → shpAll k e = true → toPys d = toPys e → d = e
  | k, [], [], _, _, _ => rfl
  | k, [], _ :: _, _, _, h => by simp [toPys] at h
  | k, _ :: _, [], _, _, h => by simp [toPys] at h
  | k, x :: xs, y :: ys, h1, h2, h => by
    simp only [shpAll, Bool.and_eq_true] at h1 h2
    simp only [toPys, List.cons.injEq] at h
    rw [toPy_inj k x y h1.1 h2.1 h.1, toPys_inj k xs ys h1.2 h2.2 h.2]
end
theorem minD_py : ∀ (xs : List D) (x : D), shp deep x = true → (∀ y ∈ xs, shp deep y = true) → (∀ y ∈ x :: xs, ∀ z ∈ x :: xs, alk y z = true) → PySem.W.minD (toPy x) (xs.map toPy) = toPy (minDl x xs) ∧ shp deep (minDl x xs) = true
  | [], x, hx, _, _ => ⟨rfl, hx⟩
  | y :: r, x, hx, h1, h2 => by
    have hy := h1 y List.mem_cons_self
    have e : PySem.W.dataLt (toPy y) (toPy x) = ltD y x := lt_py deep y x hy hx (h2 y (by simp) x (by simp))
    have ih := minD_py r (if ltD y x then y else x) (by split <;> assumption) (fun z hz => h1 z (List.mem_cons_of_mem _ hz)) (fun a ha b hb => h2 a (by
      rcases List.mem_cons.mp ha with rfl | ha
      · split <;> simp
      · simp [ha]) b (by
      rcases List.mem_cons.mp hb with rfl | hb
      · split <;> simp
      · simp [hb]))
    have e2 : PySem.W.minD (toPy x) ((y :: r).map toPy) = PySem.W.minD (toPy (if ltD y x then y else x)) (r.map toPy) := by
      show PySem.W.minD (if PySem.W.dataLt (toPy y) (toPy x) then toPy y else toPy x) (r.map toPy) = _
      rw [e]
      cases ltD y x <;> rfl
    rw [e2]
    exact ih
theorem depthAll_le : ∀ {ds : List D}, shpAll deep ds = true → PyData.depthAll (toPys ds) ≤ 20 := fun {ds} h => (shpAll_lay h).2
theorem p_minL (hc : X.calm = true) (hu : X.A.units + 64 < cLine) : Pr1 X z S .minL (.builtin "min") [] := by
  intro σ H F G env n x d r l Q er hx hs hq
  unfold sem1 at hs
  split at hs <;> try (first | contradiction | (rename_i h1 h2; cases h1; done))
  unfold minOf at hs
  split at hs
  · cases hs
  · split at hs <;> cases hs
    rename_i y ys h2
    simp only [Bool.and_eq_true, List.all_eq_true] at h2
    obtain ⟨⟨h3, h4⟩, h5⟩ := h2
    obtain ⟨a, vs, rfl, ea, ra, fa⟩ := lvLst er.fg hx
    cases ra with
    | cons r0 rt =>
      rename_i v0 vt
      have ra : RepL z.toCn G (v0 :: vt) (y :: ys) := .cons r0 rt
      have hsh := shpAll_mem h3
      obtain ⟨m1, m2⟩ := minD_py ys y (hsh y (by simp)) (fun z hz => hsh z (by simp [hz])) h4
      have es : (vt.zip ys).map (fun c => toPy c.2) = ys.map toPy := by
        rw [show (fun c : V × D => toPy c.2) = toPy ∘ Prod.snd from rfl, ← List.map_map, rt.snd]
      refine (cr_minD hc hu).w ⟨a, (v0, y), vt.zip ys, rfl, ?_, ?_, ⟨?_, ?_⟩, ?_, fun c hc he => ?_⟩
      · rw [List.map_cons, rt.fst]; exact SqL.of (er.gh _ _ ea)
      · exact RepL.dps er.gh ra h3
      · intro d hd d' hd'
        rw [List.map_cons, es] at hd hd'
        have f : ∀ d, d ∈ toPy y :: ys.map toPy → ∃ e ∈ y :: ys, d = toPy e := fun d hd => by
          rcases List.mem_cons.mp hd with rfl | hd
          · exact ⟨y, by simp, rfl⟩
          · obtain ⟨e, he, rfl⟩ := List.mem_map.mp hd
            exact ⟨e, by simp [he], rfl⟩
        obtain ⟨e, he, rfl⟩ := f d hd
        obtain ⟨e', he', rfl⟩ := f d' hd'
        exact alk_py _ _ (h4 e he e' he')
      · intro d hd
        rw [List.map_cons, es] at hd
        have f : ∃ e ∈ y :: ys, d = toPy e := by
          rcases List.mem_cons.mp hd with rfl | hd
          · exact ⟨y, by simp, rfl⟩
          · obtain ⟨e, he, rfl⟩ := List.mem_map.mp hd
            exact ⟨e, by simp [he], rfl⟩
        obtain ⟨e, he, rfl⟩ := f
        have := h5 e he
        cases e <;> first | (simp [toPy]; done) | cases this
      · rw [List.map_cons, es]
        have := depthAll_le h3
        rw [toPys_map, List.map_cons] at this
        show PyData.depthAll (toPy y :: ys.map toPy) ≤ 60
        omega
      · rw [es, m1] at he
        have hcm : c ∈ (v0 :: vt).zip (y :: ys) := hc
        have e := toPy_inj deep c.2 (minDl y ys) (hsh _ (List.of_mem_zip (a := c.1) (b := c.2) hcm).2) m2 he
        refine hq _ _ _ _ er.refl ?_
        rw [← e]
        match hl : lv1 .minL l with
        | 0 => exact ra.zipped c hcm
        | k + 1 =>
          refine Rep.lv er.fg _ ((fa ?_).zipped c hcm)
          unfold lv1 at hl
          simp only at hl
          split at hl <;> omega
theorem lv_one {l : Nat} (h : 1 ≤ (if 1 ≤ l then 2 else 0)) : 1 ≤ l := by
  refine Classical.byContradiction fun q => ?_
  rw [if_neg q] at h
  omega
theorem cr_listStr (hc : X.calm = true) : CallR X (.type "list") (fun xs H Q => ∃ x : Str, xs = [.str x] ∧ x.length ≤ sizeLine ∧ ∀ p, H p = none → Q (.ref p) (upd H p (.lst (x.cps.toList.map fun c => V.str ⟨#[c]⟩)))) := by
  intro pins s σ H xs us Q I r h
  obtain ⟨x, rfl, hz, q⟩ := h
  obtain ⟨u, rfl, ⟨t, rfl⟩⟩ := vals1 r
  refine call_list_str (I.ok.hd hc) x t (fun h' tk acc c' hk hS hi => ?_) hz
  refine ⟨.ref s.heap.objs.size, _, I.laid hk (Nat.le_refl _) (o := .lst (x.cps.toList.map fun c => V.str ⟨#[c]⟩)) ⟨?_, acc.toList, c', ?_, ?_⟩, rfl, q _ (I.hok.fresh (Nat.le_refl _))⟩
  · rw [List.length_map, Array.length_toList]; exact hz
  · refine vals_of_at ?_ fun j v u h1 h2 => ?_
    · rw [List.length_map, Array.length_toList, Array.length_toList, hi.1]
    · simp only [List.getElem?_map, Array.getElem?_toList] at h1 h2
      obtain ⟨c, w, e1, rfl⟩ := hi.2 j u h2
      rw [e1] at h1
      simp only [Option.map_some, Option.some.injEq] at h1
      subst h1
      exact ⟨w, rfl⟩
  · rw [Array.toArray_toList]; exact hS
theorem repL_signs {zc : Cn} {F : Hp} : ∀ l : List Nat, RepL zc F (l.map fun c => V.str ⟨#[c]⟩) (l.map one)
  | [] => .nil
  | c :: r => .cons (.str _) (repL_signs r)
theorem p_toL (hc : X.calm = true) : Pr1 X z S .toL (.type "list") [] := by
  intro σ H F G env n x d r l Q er hx hs hq
  unfold sem1 at hs
  split at hs <;> try (first | contradiction | (rename_i h1 h2; cases h1; done))
  · cases hs
    obtain ⟨a, vs, rfl, ea, ra, fa⟩ := lvLst er.fg hx
    exact call_list_of.w ⟨a, vs, rfl, .inl (SqL.of (er.gh _ _ ea)), fun p hp => fin_lst er hp ra (fun hl => fa (lv_one hl)) hq⟩
  · cases hs
    obtain ⟨a, vs, rfl, ea, ra, fa⟩ := lvTup er.fg hx
    exact call_list_of.w ⟨a, vs, rfl, .inr (SqT.of (er.gh _ _ ea)), fun p hp => fin_lst er hp ra (fun hl => (fa (lv_one hl)).2) hq⟩
  · split at hs <;> cases hs
    rename_i hz
    have e := lvStr er.fg hx
    subst e
    exact (cr_listStr hc).w ⟨_, rfl, by rw [← line_eq]; exact hz, fun p hp => fin_lst er hp (repL_signs _) (fun _ => repL_signs _) hq⟩
theorem p_toT : Pr1 X z S .toT (.type "tuple") [] := by
  intro σ H F G env n x d r l Q er hx hs hq
  unfold sem1 at hs
  split at hs <;> try (first | contradiction | (rename_i h1 h2; cases h1; done))
  · cases hs
    obtain ⟨a, vs, rfl, ea, ra, fa⟩ := lvLst er.fg hx
    exact call_tuple_of.w ⟨a, vs, rfl, .inl ⟨SqL.of (er.gh _ _ ea), fun p hp => fin_tup er hp ra (fun hl => fa (lv_one hl)) hq⟩⟩
  · cases hs
    obtain ⟨a, vs, rfl, ea, ra, fa⟩ := lvTup er.fg hx
    refine call_tuple_of.w ⟨a, vs, rfl, .inr ⟨SqT.of (er.gh _ _ ea), hq _ _ _ _ er.refl ?_⟩⟩
    match h : lv1 .toT l with
    | 0 => exact Rep.tup ea ra
    | k + 1 =>
      have t := fa (lv_one (by show 1 ≤ lv1 .toT l; rw [h]; omega))
      exact Rep.lv er.fg _ (.tup t.1 t.2)
theorem p_strI : Pr1 X z S .strI (.type "str") [] := by
  intro σ H F G env n x d r l Q er hx hs hq
  unfold sem1 at hs
  split at hs <;> try (first | contradiction | (rename_i h1 h2; cases h1; done))
  split at hs <;> cases hs
  rename_i hz
  have e := lvInt er.fg hx
  subst e
  exact call_str_int.w ⟨_, rfl, hz, fin_same er (.str _) hq⟩
theorem clsV_ty (n : String) : ClsV (.ty n) (.type n) := by first | exact .ty n | exact .ty | constructor
theorem p_isStr : Pr1 X z S .isStr (.builtin "isinstance") [.ty "str"] := by
  intro σ H F G env n x d r l Q er hx hs hq
  unfold sem1 at hs
  split at hs <;> try (first | contradiction | (rename_i h1 h2; cases h1; done))
  · cases hs
    have e := lvStr er.fg hx
    subst e
    exact call_isi.w ⟨_, _, _, _, true, rfl, clsV_ty "str", .base (.str _), kit_ty (by decide +kernel), fin_same er (.bl _) hq⟩
  · cases hs
    obtain ⟨a, vs, rfl, ea, ra, fa⟩ := lvTup er.fg hx
    exact call_isi.w ⟨_, _, _, _, false, rfl, clsV_ty "str", .base (.tup (er.gh _ _ ea)), kit_ty (by decide +kernel), fin_same er (.bl _) hq⟩
theorem ty_rep {l : Nat} {σ : St} {H F G : Hp} {env : Ev} {n : Nat} {x : V} {d : D} (er : ER z σ H F G env n) (hx : RepLv z.toCn l F G x d) : match d with
  | .non => TyOf X.K H x (.type "NoneType")
  | .bl _ => TyOf X.K H x (.type "bool")
  | .int _ => TyOf X.K H x (.type "int")
  | .str _ => TyOf X.K H x (.type "str")
  | .lst _ => TyOf X.K H x (.type "list")
  | .tup _ => TyOf X.K H x (.type "tuple")
  | _ => True := by
  have r := hx.g er.fg
  cases r with
  | non => exact .non
  | bl b => exact .bl b
  | int i => exact .int i
  | str s => exact .str s
  | lst e _ => exact .lst (er.gh _ _ e)
  | tup e _ => exact .tup (er.gh _ _ e)
  | _ => trivial
theorem p_isTup : Pr1 X z S .isTup (.builtin "isinstance") [.ty "tuple"] := by
  intro σ H F G env n x d r l Q er hx hs hq
  have ty := ty_rep (X := X) er hx
  unfold sem1 at hs
  split at hs <;> try (first | contradiction | (rename_i h1 h2; cases h1; done))
  all_goals (cases hs; exact call_isi.w ⟨_, _, _, _, _, rfl, clsV_ty _, .base ty, kit_ty (by decide +kernel), fin_same er (.bl _) hq⟩)
theorem p_isLst : Pr1 X z S .isLst (.builtin "isinstance") [.ty "list"] := by
  intro σ H F G env n x d r l Q er hx hs hq
  have ty := ty_rep (X := X) er hx
  unfold sem1 at hs
  split at hs <;> try (first | contradiction | (rename_i h1 h2; cases h1; done))
  all_goals (cases hs; exact call_isi.w ⟨_, _, _, _, _, rfl, clsV_ty _, .base ty, kit_ty (by decide +kernel), fin_same er (.bl _) hq⟩)
theorem p_isDct : Pr1 X z S .isDct (.builtin "isinstance") [.ty "dict"] := by
  intro σ H F G env n x d r l Q er hx hs hq
  have ty := ty_rep (X := X) er hx
  unfold sem1 at hs
  split at hs <;> try (first | contradiction | (rename_i h1 h2; cases h1; done))
  all_goals (cases hs; exact call_isi.w ⟨_, _, _, _, _, rfl, clsV_ty _, .base ty, kit_ty (by decide +kernel), fin_same er (.bl _) hq⟩)
theorem p_isBool : Pr1 X z S .isBool (.builtin "isinstance") [.ty "bool"] := by
  intro σ H F G env n x d r l Q er hx hs hq
  have ty := ty_rep (X := X) er hx
  unfold sem1 at hs
  split at hs <;> try (first | contradiction | (rename_i h1 h2; cases h1; done))
  all_goals (cases hs; exact call_isi.w ⟨_, _, _, _, _, rfl, clsV_ty _, .base ty, kit_ty (by decide +kernel), fin_same er (.bl _) hq⟩)
/-- two arguments -/
def Pr2C (X : Cx) (z : Fx) (p : P2) (f : Value) : Prop := ∀ {σ : St} {H F G : Hp} {env : Ev} {n : Nat} {x y : V} {d e r : D} {l m : Nat} {Q : VK},
  ER z σ H F G env n → RepLv z.toCn l F G x d → RepLv z.toCn m F G y e → sem2 p n d e = some r →
  (∀ v H' F' G', Step z H F G H' F' G' n → RepLv z.toCn (lv2 p l m) F' G' v r → Q v H') → wC X f [x, y] H Q
theorem p_min2 (hc : X.calm = true) (hu : X.A.units + 64 < cLine) : Pr2C X z .min2 (.builtin "min") := by
  intro σ H F G env n x y d e r l m Q er hx hy hs hq
  unfold sem2 at hs
  split at hs <;> try (first | contradiction | (rename_i h1 h2 h3; cases h1; done))
  · cases hs
    have e1 := lvInt er.fg hx
    have e2 := lvInt er.fg hy
    subst e1 e2
    exact (call_min2 hc).w ⟨_, _, rfl, fin_same er (.int _) hq⟩
  · rename_i xs ys _
    unfold minOf at hs
    simp only at hs
    split at hs <;> cases hs
    rename_i h2
    simp only [Bool.and_eq_true, List.all_eq_true] at h2
    obtain ⟨⟨h3, h4⟩, h5⟩ := h2
    have hsh := shpAll_mem h3
    obtain ⟨m1, m2⟩ := minD_py [.tup ys] (.tup xs) (hsh _ (by simp)) (fun z hz => hsh z (by simp at hz; simp [hz])) h4
    refine (cr_min2D hc hu).w ⟨(x, .tup xs), (y, .tup ys), rfl, (hx.g er.fg).dp er.gh (hsh _ (by simp)), (hy.g er.fg).dp er.gh (hsh _ (by simp)), ⟨?_, ?_⟩, ?_, fun c hc he => ?_⟩
    · intro d hd d' hd'
      have f : ∀ d, d ∈ [toPy (.tup xs), toPy (.tup ys)] → ∃ e ∈ [D.tup xs, .tup ys], d = toPy e := fun d hd => by
        rcases List.mem_cons.mp hd with rfl | hd
        · exact ⟨_, by simp, rfl⟩
        · rw [List.mem_singleton] at hd
          exact ⟨.tup ys, by simp, hd⟩
      obtain ⟨e, he, rfl⟩ := f d hd
      obtain ⟨e', he', rfl⟩ := f d' hd'
      exact alk_py _ _ (h4 e he e' he')
    · intro d hd
      have f : ∃ e ∈ [D.tup xs, .tup ys], d = toPy e := by
        rcases List.mem_cons.mp hd with rfl | hd
        · exact ⟨_, by simp, rfl⟩
        · rw [List.mem_singleton] at hd
          exact ⟨.tup ys, by simp, hd⟩
      obtain ⟨e, he, rfl⟩ := f
      have := h5 e he
      cases e <;> first | (simp [toPy]; done) | cases this
    · have := depthAll_le h3
      rw [toPys_map] at this
      show PyData.depthAll ([.tup xs, .tup ys].map toPy) ≤ 60
      omega
    · have he : toPy c.2 = PySem.W.minD (toPy (.tup xs)) ([.tup ys].map toPy) := he
      rw [m1] at he
      have hcm : c = (x, .tup xs) ∨ c = (y, .tup ys) := by simpa using hc
      have hc2 : shp deep c.2 = true := by
        rcases hcm with rfl | rfl
        · exact hsh _ (by simp)
        · exact hsh _ (by simp)
      have e := toPy_inj deep c.2 _ hc2 m2 he
      refine hq _ _ _ _ er.refl ?_
      rw [← e]
      match hl : lv2 .min2 l m with
      | 0 =>
        rcases hcm with rfl | rfl
        · exact hx.g er.fg
        · exact hy.g er.fg
      | k + 1 =>
        have q : 1 ≤ l ∧ 1 ≤ m := by
          refine Classical.byContradiction fun w => ?_
          simp [lv2, w] at hl
        refine Rep.lv er.fg _ ?_
        rcases hcm with rfl | rfl
        · exact hx.i er.fg q.1
        · exact hy.i er.fg q.2
theorem p_max2 (hc : X.calm = true) : Pr2C X z .max2 (.builtin "max") := by
  intro σ H F G env n x y d e r l m Q er hx hy hs hq
  unfold sem2 at hs
  split at hs <;> try (first | contradiction | (rename_i h1 h2 h3; cases h1; done))
  cases hs
  have e1 := lvInt er.fg hx
  have e2 := lvInt er.fg hy
  subst e1 e2
  exact (call_max2 hc).w ⟨_, _, rfl, fin_same er (.int _) hq⟩
/-- a method of one argument -/
def Pr2M (X : Cx) (z : Fx) (p : P2) (id : String) : Prop := ∀ {σ : St} {H F G : Hp} {env : Ev} {n : Nat} {x y : V} {d e r : D} {l m : Nat} {Q : VK},
  ER z σ H F G env n → RepLv z.toCn l F G x d → RepLv z.toCn m F G y e → sem2 p n d e = some r →
  (∀ v H' F' G', Step z H F G H' F' G' n → RepLv z.toCn (lv2 p l m) F' G' v r → Q v H') → wM X id x [y] H Q
theorem p_index (hu : X.A.units + 65 < cLine) : Pr2M X z .index "list.index" := by
  intro σ H F G env n x y d e r l m Q er hx hy hs hq
  cases d with
  | lst xs =>
    simp only [sem2] at hs
    split at hs
    · rename_i hc
      simp only [Bool.and_eq_true] at hc
      simp only [Option.map_eq_some_iff] at hs
      obtain ⟨j, hj, rfl⟩ := hs
      obtain ⟨hl, h1, h2⟩ := List.findIdx?_eq_some_iff_getElem.mp hj
      have hl' : shp (deep + 1) (.lst xs) = true := by simpa [shp] using hc.2
      obtain ⟨a, vs, rfl, ea, ra, fa⟩ := lvLst er.fg hx
      refine (mt_indexD hu).w ⟨a, y, toPy e, toPys xs, j, toPy xs[j], rfl, rfl, by simpa [toPy] using (hx.g er.fg).dp er.gh hl', (hy.g er.fg).dp er.gh hc.1, shpAll_shaped (by decide) hc.2, shp_shaped (by decide) hc.1, ?_, ?_, ?_, fin_same er (.int _) hq⟩
      · rw [toPys_map, List.getElem?_map, List.getElem?_eq_getElem hl]; rfl
      · rw [eqv_py (shpAll_mem hc.2 _ (List.getElem_mem hl)) hc.1]; exact h1
      · intro k z' hk hz
        rw [toPys_map, List.getElem?_map, List.getElem?_eq_getElem (by omega)] at hz
        simp only [Option.map_some, Option.some.injEq] at hz
        subst hz
        rw [eqv_py (shpAll_mem hc.2 _ (List.getElem_mem (by omega))) hc.1]
        simpa using h2 k hk
    · cases hs
  | _ => simp [sem2] at hs
theorem mt_countD (hu : X.A.units + 65 < cLine) : MtR X "list.count" (fun x xs H Q => ∃ (a : Addr) (y : V) (vs : List V) (d : PyData) (ds : List PyData), x = .ref a ∧ xs = [y] ∧ H a = some (.lst vs) ∧ DpAll X.K H vs ds ∧ Dp X.K H y d ∧ SeqAt.shaped d = true ∧ PyData.canLayAll0 ds = true ∧
    Q (.int ((ds.countP fun y => PyData.eqv y d : Nat) : Int)) H) := by
  intro pins s σ H x xs v us Q I rx rs h
  obtain ⟨a, y, vs, d, ds, rfl, rfl, ha, hds, hd, sd, sl, q⟩ := h
  obtain ⟨u, rfl, ry⟩ := vals1 rs
  cases rx
  obtain ⟨its, rv, hl, _⟩ := I.list (SqL.of ha)
  obtain ⟨as, hr⟩ := Dp.readsAll I ds vs its hds rv
  obtain ⟨bs, hb⟩ := Dp.reads I d y u hd ry
  have h1 := SeqAt.canLay_of_shaped sd
  have h2 := SeqAt.depth_of_shaped sd
  refine SeqAt.count_list_data hl.isList (by simpa using hr) hb (PyData.plainAll_of_canLay0 _ sl) (PyData.plain_of_canLay0 _ h1) ?_ ⟨.int _, H, I.tok _, ⟨_, rfl⟩, q⟩
  have : min (PyData.depthAll ds) d.depth ≤ d.depth := Nat.min_le_right _ _
  omega
theorem p_count (hu : X.A.units + 65 < cLine) : Pr2M X z .count "list.count" := by
  intro σ H F G env n x y d e r l m Q er hx hy hs hq
  cases d with
  | lst xs =>
    simp only [sem2] at hs
    split at hs
    · rename_i hc
      simp only [Bool.and_eq_true] at hc
      cases hs
      obtain ⟨a, vs, rfl, ea, ra, fa⟩ := lvLst er.fg hx
      refine (mt_countD hu).w ⟨a, y, vs, toPy e, toPys xs, rfl, rfl, er.gh _ _ ea, ra.dp er.gh hc.2, (hy.g er.fg).dp er.gh hc.1, shp_shaped (by decide) hc.1, (shpAll_lay hc.2).1, ?_⟩
      have : (toPys xs).countP (fun y => PyData.eqv y (toPy e)) = xs.countP fun y => eqv y e := by
        have hm := shpAll_mem hc.2
        clear hx hq ra fa
        induction xs with
        | nil => rfl
        | cons w ws ih =>
          have hw := hm w List.mem_cons_self
          simp only [shpAll, Bool.and_eq_true] at hc
          simp only [toPys, List.countP_cons, eqv_py hw hc.1]
          rw [ih ⟨hc.1, hc.2.2⟩ (shpAll_mem hc.2.2)]
      rw [this]
      exact fin_same er (.int _) hq
    · cases hs
  | _ => simp [sem2] at hs
/-! subscripts -/
def wX (X : Cx) (value slice : Expr) : R2 := fun x y H Q => ∀ (pins : List (Addr × Obj)) (s : Shared) (σ : St) (v u : Value), Inv X pins σ H s → RelV x v → RelV y u → subscripted slice false v u = operate [v, u] (getItem v u) → wpAny (model X.prog X.w) X.A (subscriptTail value slice v u) (EP X pins σ Q) X.xe s
theorem _root_.L2.IxR.w {r : R2} (h : IxR X r) {value slice : Expr} {x y : V} {H : Hp} {Q : VK} (q : r x y H Q) : wX X value slice x y H Q := fun pins s σ v u I r1 r2 hs => h value slice pins s σ H x y v u Q I r1 r2 q hs
theorem ixN_eq : Mv.ixN = L2.ixN := rfl
theorem ix_dk (hu : X.A.units + 1 < cLine) : IxR X (fun x y H Q => ∃ a kvs k v, x = .ref a ∧ y = kV k ∧ H a = some (.dK kvs) ∧ valV kvs k = some v ∧ Q v H) := by
  intro value slice pins s σ H x y v u Q I rx ry h hs
  obtain ⟨a, kvs, k, t, rfl, rfl, ha, hv, q⟩ := h
  obtain rfl : v = Value.ref a := rx
  have g : DGet H a (kV k) (some t) := by
    have := DGet.k (k := k) ha
    rw [hv] at this
    exact this
  exact tail_any (dict_typeIs I g) PySem.F.slot_dict_getitem.lookup (d_getItem hu I g ry fun w' s3 I3 rw' => ⟨t, H, I3, rw', q⟩) hs
theorem RepK.find {c : Cn} {F : Hp} {x : Str} : ∀ {kvs : List (Key × V)} {ds : List (D × D)} {kv : D × D}, RepK c F kvs ds → ds.find? (fun kv => match kv.1 with | .str y => decide (y = x) | _ => false) = some kv → ∃ v, valV kvs (.inr x) = some v ∧ Rep c F v kv.2
  | _, _, _, .nil, h => by simp at h
  | _, _, _, .cons (k := k) hk hv t, h => by
    rw [List.find?_cons] at h
    cases k with
    | inl i =>
      cases hk
      obtain ⟨v, h1, h2⟩ := RepK.find t h
      exact ⟨v, by rw [valV_neg (by simp)]; exact h1, h2⟩
    | inr y =>
      cases hk
      by_cases e : y = x
      · subst e
        simp at h
        subst h
        exact ⟨_, valV_pos rfl, hv⟩
      · simp [e] at h
        obtain ⟨v, h1, h2⟩ := RepK.find t (by simpa using h)
        exact ⟨v, by rw [valV_neg (by simpa using e)]; exact h1, h2⟩
theorem pr_idx (hu : X.A.units + 64 < cLine) (hK : X.K = z.K) {value slice : Expr} {σ : St} {H F G : Hp} {env : Ev} {n : Nat} {x y : V} {d e r : D} {l m : Nat} {Q : VK} (er : ER z σ H F G env n) (hx : RepLv z.toCn l F G x d) (hy : RepLv z.toCn m F G y e) (hs : sem2 .idx n d e = some r)
    (hq : ∀ v H' F' G', Step z H F G H' F' G' n → RepLv z.toCn (lv2 .idx l m) F' G' v r → Q v H') : wX X value slice x y H Q := by
  have gen : ∀ kvs, dicOf d e = some kvs → dget kvs e = some r → wX X value slice x y H Q := fun kvs hd hg => by
    obtain ⟨a, o, rfl, g, _, ro, rf⟩ := dget_ok er.fg er.gh hd hx hy
    rw [hg] at ro rf
    obtain ⟨v, rfl, rv⟩ := ro.some
    refine (ix_d (by omega)).w ⟨a, v, rfl, g, hq _ _ _ _ er.refl ?_⟩
    match h : lv2 .idx l m with
    | 0 => exact rv
    | j + 1 =>
      obtain ⟨v', e1, rv'⟩ := (rf (lv_one (by show 1 ≤ lv2 .idx l m; rw [h]; omega))).some
      cases e1
      exact Rep.lv er.fg _ rv'
  unfold sem2 at hs
  split at hs <;> try (first | contradiction | (rename_i h1 h2 h3; cases h1; done))
  · rename_i xs i _
    obtain ⟨a, vs, rfl, ea, ra, fa⟩ := lvLst er.fg hx
    obtain ⟨j, h1, h2⟩ := Option.bind_eq_some_iff.mp hs
    obtain ⟨v, hv, rv⟩ := ra.get h2
    refine ix_list.w ⟨a, vs, i, v, rfl, lvInt er.fg hy, SqL.of (er.gh _ _ ea), ?_, hq _ _ _ _ er.refl ?_⟩
    · unfold atI
      rw [ra.length, ← ixN_eq, h1]
      exact hv
    · match h : lv2 .idx l m with
      | 0 => exact rv
      | k + 1 =>
        obtain ⟨v', hv', rv'⟩ := (fa (lv_one (by show 1 ≤ lv2 .idx l m; rw [h]; omega))).get h2
        rw [hv] at hv'
        cases hv'
        exact Rep.lv er.fg _ rv'
  · rename_i xs i _
    obtain ⟨a, vs, rfl, ea, ra, fa⟩ := lvTup er.fg hx
    obtain ⟨j, h1, h2⟩ := Option.bind_eq_some_iff.mp hs
    obtain ⟨v, hv, rv⟩ := ra.get h2
    refine ix_tup.w ⟨a, vs, i, v, rfl, lvInt er.fg hy, SqT.of (er.gh _ _ ea), ?_, hq _ _ _ _ er.refl ?_⟩
    · unfold atI
      rw [ra.length, ← ixN_eq, h1]
      exact hv
    · match h : lv2 .idx l m with
      | 0 => exact rv
      | k + 1 =>
        obtain ⟨v', hv', rv'⟩ := (fa (lv_one (by show 1 ≤ lv2 .idx l m; rw [h]; omega))).2.get h2
        rw [hv] at hv'
        cases hv'
        exact Rep.lv er.fg _ rv'
  · rename_i ns i _
    have q : Rep z.toCn G x (.scr _) := hx.g er.fg
    cases q with
    | scr e =>
      obtain ⟨j, h1, h2⟩ := Option.bind_eq_some_iff.mp hs
      obtain ⟨k, h3, rfl⟩ := Option.map_eq_some_iff.mp h2
      refine ix_list.w ⟨_, _, i, .int k, rfl, lvInt er.fg hy, by rw [hK]; exact sqL_mono er.gh e, ?_, fin_same er (.int _) hq⟩
      unfold atI
      rw [List.length_map, ← ixN_eq, h1]
      show (ns.map V.int)[j]? = _
      rw [List.getElem?_map, h3]
      rfl
  · split at hs
    · rename_i zs i _ hz
      obtain ⟨j, h1, h2⟩ := Option.bind_eq_some_iff.mp hs
      obtain ⟨k, h3, rfl⟩ := Option.map_eq_some_iff.mp h2
      refine ix_str.w ⟨zs, i, k, lvStr er.fg hx, lvInt er.fg hy, by rw [← line_eq]; exact hz, ?_, fin_same er (.str _) hq⟩
      unfold atI
      have : zs.cps.toList.length = zs.length := by rw [Array.length_toList]; rfl
      rw [this, ← ixN_eq, h1]
      exact h3
    · cases hs
  · rename_i kds k _
    obtain ⟨kv, h1, rfl⟩ := Option.map_eq_some_iff.mp hs
    obtain ⟨a, kvs, rfl, ea, ra, fa⟩ := lvK er.fg (.inl rfl) hx
    obtain ⟨v, hv, rv⟩ := ra.find h1
    have e2 := lvStr er.fg hy
    refine (ix_d (by omega)).w ⟨a, v, rfl, .inl ⟨kvs, .inr k, ea.mono er.gh, e2, hv.symm⟩, hq _ _ _ _ er.refl ?_⟩
    match h : lv2 .idx l m with
    | 0 => exact rv
    | j + 1 =>
      obtain ⟨v', hv', rv'⟩ := (fa (lv_one (by show 1 ≤ lv2 .idx l m; rw [h]; omega))).find h1
      rw [hv] at hv'
      cases hv'
      exact Rep.lv er.fg _ rv'
  · rename_i kvs i _
    exact gen kvs rfl hs
  · rename_i kvs i _
    exact gen kvs rfl hs
  · rename_i kvs i _
    exact gen kvs rfl hs
  · split at hs
    · rename_i kvs i _ hk
      exact gen kvs (by simp only [dicOf, if_pos hk]) hs
    · cases hs
  · split at hs
    · rename_i kvs i _ hk
      exact gen kvs (by simp only [dicOf, if_pos hk]) hs
    · cases hs
end
end L2.Ms

/-! # Msq: set(xs) of a list of ints, sorted(set(..)), len(set(..)) -/
namespace L2.Ms
open PySem PySem.Spec PyProof.Rows Mv
abbrev newSet (w : World) : Obj := { cls := .type "set", dict := none, data := .set #[] 0 (.fresh 0 0 (!w.params.followText "set-order")) }
section
variable {P : Program} {w : World} {A : Around} {E : Value → Shared → Prop} {s : Shared}
set_option maxHeartbeats 3200000 in
theorem set_ofList {l : Addr} {its : Array Value} (ns : List Int) {Q : Value → Shared → Prop} (noH : A.handled = none) (isL : s.heap.IsList l its) (isI : IntsAre its.toList ns) (few : ns.length + 1 < scanBound)
    (k : ∀ (g : Heap) (tk c : Nat), SetR w g s.heap.objs.size (fun j => decide (j ∈ ns)) c → c ≤ ns.length → (∀ b o, s.heap.get? b = some o → g.get? b = some o) → Q (.ref s.heap.objs.size) { s with heap := g, toks := tk }) :
    wpAny (model P w) A (call (.type "set") [.ref l]) Q E s := by
  have sz : its.size = ns.length := by have q := IntsAre.length isI; rwa [Array.length_toList] at q
  obtain ⟨_, _, hmro⟩ := F.called_set.mro
  have hmade := F.called_set.made; have hsub := F.called_set.sub
  refine wpAny_call (codeAny_of_tree ?_); show wpAny _ _ (callAny (.type "set") _) _ _ _
  refine wpAny_pure ⟨Code.quiet_builtin _ (by decide +kernel), codeAny_builtin F.entry_type_call ?_⟩; rw [Around.under_plain (weight_type_call_type "set" [.ref l] []) rfl]
  have h1 := F.called_set.notType; have h2 := F.called_set.canCreate; have hct := F.typeCall_set_1 (.ref l)
  repeat (any_goals (first | assumption | wp_step))
  refine codeAny_mono (code_set_led1 (.ref l) (E := E) (Q₁ := fun obj t => obj = .ref s.heap.objs.size ∧ t = { s with heap := s.heap.push (newSet w) }) ⟨rfl, rfl⟩) fun r t hr => ?_
  cases r with
  | error e => exact hr
  | ok fl =>
    cases fl with
    | ret obj =>
      obtain ⟨rfl, rfl⟩ := hr
      have hS : (s.heap.push (newSet w)).get? s.heap.objs.size = some (newSet w) := Heap.get?_push_size _ rfl
      have hT : Shared.TypeIs { s with heap := s.heap.push (newSet w) } (.ref s.heap.objs.size) "set" := ⟨_, hS, rfl⟩
      have hli := F.called_set.init.lookup; have hbi := F.called_set.init.bind (.ref s.heap.objs.size)
      repeat (any_goals (first | assumption | wp_step))
      refine codeAny_mono (codeAny_call_builtin (R := wants (fun r t => r = .none ∧ ∃ g tk c, t = { s with heap := g, toks := tk } ∧ SetR w g s.heap.objs.size (fun j => decide (j ∈ ns)) c ∧ c ≤ ns.length ∧ ∀ b o, s.heap.get? b = some o → g.get? b = some o) E) F.called_set.init.plain F.entry_set_init (check_set_init_1 hT ?_)) fun r₂ t hr₂ => ?_
      · obtain ⟨ol, hol, hcl, nl, hdl⟩ := isL
        obtain ⟨ocls, odict, odata, oslots⟩ := ol; simp only at hcl hdl; subst hcl; subst hdl
        have hol' : (s.heap.push (newSet w)).get? l = some { cls := .type "list", dict := odict, data := .seq its nl, slots := oslots } := Heap.get?_push_of_some _ hol
        have hsls := F.sub_list_set; have hslf := F.sub_list_frozenset
        have hne : (Value.type "list" == Value.type "dict") = false := by decide
        have hl1 : (s.heap.push (newSet w)).IsList l its := ⟨_, hol', rfl, nl, rfl⟩
        unfold Builtin.«set.__init__» noKeywords Builtin.Frozenset.updateFrom; generalize hPI : pyIter = PI
        wp_walk
        subst hPI
        refine wpAny_pyIter_list hl1 (wpAny_bind (wpAny_runValue ?_))
        have lS : l < s.heap.objs.size := Heap.lt_size hol
        have noH3 : A.in1.in1.in1.handled = none := by simp [noH]
        have neI : l ≠ (s.heap.push (newSet w)).objs.size := by rw [Heap.size_push]; exact Nat.ne_of_lt (Nat.lt_succ_of_lt lS)
        have nSf : s.heap.objs.size ∉ [(s.heap.push (newSet w)).objs.size, l] := by
          rw [Heap.size_push]; simp only [List.mem_cons, List.mem_singleton, List.not_mem_nil, or_false, not_or]
          exact ⟨Nat.ne_of_lt (Nat.lt_succ_self _), Nat.ne_of_gt lS⟩
        have vals : ∀ (i : Nat) (v : Value), its[i]? = some v → ∃ k t, ns[i]? = some k ∧ v = .int k t := fun i v hv => by
          have hi : i < ns.length := by rw [← sz]; exact (Array.getElem?_eq_some_iff.mp hv).1
          obtain ⟨t, e⟩ := PyProof.Rows.IntsAre.int_at isI i v (by rw [Array.getElem?_toList]; exact hv)
          refine ⟨ns[i], t, List.getElem?_eq_getElem hi, ?_⟩; rw [e, List.getD_eq_getElem?_getD, List.getElem?_eq_getElem hi] <;> rfl
        refine set_update_ints ((Walks.list noH3 _ l neI its).toS) s.heap.objs.size nSf ns sz few vals (its.size - 0) 0 _ (by omega) (Nat.zero_le _) ⟨⟨_, Heap.get?_push_size _ rfl, rfl, rfl⟩, (hl1.push _)⟩ ?zero ?rest
        case zero =>
          have got : ((s.heap.push (newSet w)).push { cls := .type "list_iterator", data := .fields #[.ref l, .int 0 0] }).get? s.heap.objs.size = some (newSet w) := Heap.get?_push_of_some _ hS
          exact ⟨0, Nat.le_refl 0, setR_new_at got⟩
        case rest =>
          intro t c mv hc R
          obtain ⟨g, g2, d2, tk2, os2⟩ := t
          have eg : g2 = s.gens := mv.gens; have ed : d2 = s.drawn := mv.drawn; have eo : os2 = s.os := mv.os
          subst eg; subst ed; subst eo
          show wpAny _ _ _ _ _ _
          refine wpAny_pure ?_
          show wpAny _ _ (ret Value.none) _ _ _
          rw [sz] at hc
          refine wpAny_pure ⟨rfl, g, tk2, c, rfl, R, hc, fun b o e => ?_⟩
          have b0 : b < s.heap.objs.size := Heap.lt_size e
          have b2 : b ≠ (s.heap.push (newSet w)).objs.size := by rw [Heap.size_push]; exact Nat.ne_of_lt (Nat.lt_succ_of_lt b0)
          exact mv.heap b o (by simp only [List.mem_cons, List.mem_singleton, List.not_mem_nil, or_false, not_or]; exact ⟨Nat.ne_of_lt b0, b2⟩) (Heap.get?_push_of_some _ (Heap.get?_push_of_some _ e))
      · cases r₂ with
        | error e => exact hr₂
        | ok fl₂ =>
          cases fl₂ with
          | ret r =>
            obtain ⟨rfl, g, tk, c, rfl, R, hc, kp⟩ := hr₂
            repeat (any_goals (first | assumption | wp_step))
            exact k _ _ _ R hc kp
          | _ => exact hr₂.elim
    | _ => exact hr.elim
end
/-! ### once -/
theorem once_mem {k : Int} : ∀ ns : List Int, k ∈ once ns ↔ k ∈ ns
  | [] => Iff.rfl
  | a :: r => by
    simp only [once, List.mem_cons, List.mem_filter, once_mem r, decide_eq_true_eq]
    by_cases h : k = a <;> simp [h]
theorem once_nodup : ∀ ns : List Int, (once ns).Nodup
  | [] => .nil
  | a :: r => by
    simp only [once, List.nodup_cons]
    exact ⟨by simp, (once_nodup r).filter _⟩
theorem once_length : ∀ ns : List Int, (once ns).length ≤ ns.length
  | [] => Nat.le_refl _
  | a :: r => by
    simp only [once, List.length_cons]
    have := List.length_filter_le (fun b => decide (b ≠ a)) (once r)
    have := once_length r
    omega
theorem lt_eq_sset {ns out : List Int} (hs : out.Pairwise (· < ·)) (hm : ∀ k, k ∈ out ↔ k ∈ ns) : out = sortI (once ns) := by
  have nd : out.Nodup := hs.imp fun h => by omega
  have pm : out.Perm (once ns) := (List.perm_ext_iff_of_nodup nd (once_nodup ns)).mpr fun k => (hm k).trans (once_mem ns).symm
  exact sorted_unique (pm.trans (sortI_perm _).symm) (hs.imp fun h => by omega) (sortI_sorted _)
section
variable {X : Cx}
/-- set(a), its object untold; then f -/
theorem set_call {a : Expr} {p p2 q : Pos} {f : String} {pins : List (Addr × Obj)} {s : Shared} {σ : St} {H : Hp} {Q Q1 : VK} (hc : X.calm = true) (hg2 : Gl X "set") (hm2 : X.mg "set" = none) (na : starEach [a] X.env = (false, eval a X.env) :: starEach [] X.env) (I : Inv X pins σ H s) (h : wE X a σ H Q1)
    (k : ∀ x H1, Q1 x H1 → ∃ (l : Addr) (ns : List Int), x = V.ref l ∧ (SqL X.K H1 l (ns.map V.int) ∨ SqT X.K H1 l (ns.map V.int)) ∧ ns.length ≤ 60 ∧
      ∀ (t : Shared) (a : Addr) (c : Nat), Inv X pins σ H1 t → SetR X.w t.heap a (fun j => decide (j ∈ ns)) c → c ≤ ns.length → wpAny (model X.prog X.w) X.A (call (.builtin f) [.ref a]) (EP X pins σ Q) X.xe t) :
    wpAny (model X.prog X.w) X.A (eval (.Call (.Name "set" p2) [a] [] q) X.env) (fun v t => wpAny (model X.prog X.w) X.A (spliced (backTo p (starEach [] X.env))) (fun vs t => wpAny (model X.prog X.w) X.A (call (.builtin f) (v :: vs)) (EP X pins σ Q) X.xe t) X.xe t) X.xe s := by
  refine Call_ (ld_blt I hg2 hm2 PyProof.Rows.boot_set ?_)
  refine PyProof.Rows.callWith_type1 (PyProof.Rows.args_cons (thn (h pins s I) fun v s1 ⟨x, H1, I1, r1, q1⟩ => PyProof.Rows.args_nil ?_) na) na rfl
  obtain ⟨l, ns, rfl, hq, hl, q1⟩ := k x H1 q1
  cases r1
  have few : ns.length + 1 < scanBound := by unfold scanBound; omega
  rcases hq with hq | hq
  · obtain ⟨its, r, pl, hz⟩ := I1.list hq
    refine set_ofList ns (I1.ok.hd hc) pl.isList (by simpa using r.ints) few fun g tk c R hc k => PyProof.Rows.args_nil ?_
    exact q1 _ _ c (I1.kept k) R hc
  · obtain ⟨its, r, pl, hz⟩ := I1.tuple hq
    refine call_set_tupI ns (I1.ok.hd hc) pl (by simpa using r.ints) few fun g tk c R hc k => PyProof.Rows.args_nil ?_
    exact q1 _ _ c (I1.kept k) R hc
theorem w_srtSet {a : Expr} {p p2 q pos : Pos} {σ : St} {H : Hp} {Q : VK} (hc : X.calm = true) (hg : Gl X "sorted") (hm : X.mg "sorted" = none) (hg2 : Gl X "set") (hm2 : X.mg "set" = none) (na : starEach [a] X.env = (false, eval a X.env) :: starEach [] X.env)
    (h : wE X a σ H fun x H1 => ∃ (l : Addr) (ns : List Int), x = V.ref l ∧ (SqL X.K H1 l (ns.map V.int) ∨ SqT X.K H1 l (ns.map V.int)) ∧ ns.length ≤ 60 ∧ ∀ p, H1 p = none → Q (.ref p) (upd H1 p (.lst ((sortI (once ns)).map V.int)))) :
    wE X (.Call (.Name "sorted" p) [.Call (.Name "set" p2) [a] [] q] [] pos) σ H Q := fun pins s I => by
  refine Call_ (ld_blt I hg hm (by decide +kernel : bootBuiltins "sorted" = some (.builtin "sorted")) ?_)
  refine PyProof.Rows.callWith_builtin1 (PyProof.Rows.args_cons (set_call (f := "sorted") hc hg2 hm2 na I h fun x H1 hx => ?_) rfl) rfl rfl
  obtain ⟨l, ns, e, hq, hl, q1⟩ := hx
  refine ⟨l, ns, e, hq, hl, fun t a c J R hcl => ?_⟩
  refine sorted_set R (J.ok.hd hc) (by omega) fun s' p out c ms k g o hp hg hi hs hm hl => ?_
  have e1 : ms = sortI (once ns) := lt_eq_sset hs fun k => by rw [hm k]; simp
  have hlen : (ms.map V.int).length ≤ sizeLine := by rw [List.length_map, hl, sizeLine_eq]; omega
  have hn : H1 p = none := J.hok.fresh hp
  have J2 : Inv X pins σ (upd H1 p (.lst (ms.map V.int))) { t with heap := s'.heap, gens := s'.gens, drawn := s'.drawn, toks := s'.toks } :=
    J.call (ch := []) (Un.laid k hp hn) (J.hok.laid k hp ⟨hlen, out.toList, c, vals_of_ints hi, hg⟩) (by rw [g]; exact J.bare) (fun _ z => nomatch z)
  have e2 : s' = { t with heap := s'.heap, gens := s'.gens, drawn := s'.drawn, toks := s'.toks } := by
    cases s'; cases t; cases o; rfl
  rw [e2]
  exact ⟨.ref p, _, J2, rfl, by rw [e1]; exact q1 p hn⟩
theorem w_lenSet {a : Expr} {p p2 q pos : Pos} {σ : St} {H : Hp} {Q : VK} (hc : X.calm = true) (hg : Gl X "len") (hm : X.mg "len" = none) (hg2 : Gl X "set") (hm2 : X.mg "set" = none) (na : starEach [a] X.env = (false, eval a X.env) :: starEach [] X.env)
    (h : wE X a σ H fun x H1 => ∃ (l : Addr) (ns : List Int), x = V.ref l ∧ (SqL X.K H1 l (ns.map V.int) ∨ SqT X.K H1 l (ns.map V.int)) ∧ ns.length ≤ 60 ∧ Q (.int ((once ns).length : Nat)) H1) :
    wE X (.Call (.Name "len" p) [.Call (.Name "set" p2) [a] [] q] [] pos) σ H Q := fun pins s I => by
  refine Call_ (ld_blt I hg hm PySem.boot_len ?_)
  refine PyProof.Rows.callWith_builtin1 (PyProof.Rows.args_cons (set_call (f := "len") hc hg2 hm2 na I h fun x H1 hx => ?_) rfl) rfl rfl
  obtain ⟨l, ns, e, hq, hl, q1⟩ := hx
  refine ⟨l, ns, e, hq, hl, fun t a c J R hcl => ?_⟩
  obtain ⟨o, es, ep, tt, ho, hex, hd, gd, nd, hmm, hb, hf, hn, _⟩ := R
  have pm : (es.toList.map keyOf).Perm (once ns) := (List.perm_ext_iff_of_nodup nd (once_nodup ns)).mpr fun k => ((hmm k).symm.trans (by simp)).trans (once_mem ns).symm
  have hc2 : es.size = (once ns).length := by rw [← pm.length_eq, List.length_map, Array.length_toList]
  exact call_len_set ho hex hd hf (by have := once_length ns; unfold scanBound at *; omega) ⟨.int (once ns).length, H1, J.tok _, ⟨_, by rw [hc2]⟩, q1⟩
end
end L2.Ms

/-! # Msr: len(set(xs)) of a list of tuples of ints -/
namespace L2.Ms
open PySem PySem.Spec PyProof.Rows Mv
theorem onceL_mem {k : List Int} : ∀ ns : List (List Int), k ∈ onceL ns ↔ k ∈ ns
  | [] => Iff.rfl
  | a :: r => by
    simp only [onceL, List.mem_cons, List.mem_filter, onceL_mem r, decide_eq_true_eq]
    by_cases h : k = a <;> simp [h]
theorem onceL_nodup : ∀ ns : List (List Int), (onceL ns).Nodup
  | [] => .nil
  | a :: r => by
    simp only [onceL, List.nodup_cons]
    exact ⟨by simp, (onceL_nodup r).filter _⟩
section
variable {X : Cx}
theorem w_lenSetT {a : Expr} {p p2 q pos : Pos} {σ : St} {H : Hp} {Q : VK} (hc : X.calm = true) (hu : X.A.units + 64 < cLine) (hg : Gl X "len") (hm : X.mg "len" = none) (hg2 : Gl X "set") (hm2 : X.mg "set" = none) (na : starEach [a] X.env = (false, eval a X.env) :: starEach [] X.env)
    (h : wE X a σ H fun x H1 => ∃ (l : Addr) (ks : List (Addr × List Int)), x = V.ref l ∧ SqL X.K H1 l (ks.map fun p => V.ref p.1) ∧ (∀ p ∈ ks, SqT X.K H1 p.1 (p.2.map V.int)) ∧ ks.length < 64 ∧ Q (.int ((onceL (ks.map (·.2))).length : Nat)) H1) :
    wE X (.Call (.Name "len" p) [.Call (.Name "set" p2) [a] [] q] [] pos) σ H Q := fun pins s I => by
  refine Call_ (ld_blt I hg hm PySem.boot_len ?_)
  refine PyProof.Rows.callWith_builtin1 (PyProof.Rows.args_cons ?_ rfl) rfl rfl
  refine Call_ (ld_blt I hg2 hm2 PyProof.Rows.boot_set ?_)
  refine PyProof.Rows.callWith_type1 (PyProof.Rows.args_cons (thn (h pins s I) fun v s1 ⟨x, H1, I1, r1, q1⟩ => PyProof.Rows.args_nil ?_) na) na rfl
  obtain ⟨l, ks, rfl, hq, hk, hf, q1⟩ := q1
  cases r1
  obtain ⟨its, rv, pl, hz⟩ := I1.list hq
  refine call_set_tups (P := X.prog) (w := X.w) ks (I1.ok.hd hc) pl.isList (by simpa using refs_of_vals rv) (fun p hp => I1.isT (hk p hp)) hf (by omega) fun h' tk L es ep t R g k => PyProof.Rows.args_nil ?_
  obtain ⟨o, ho, hex, hd⟩ := R.ob
  have pm : (L.map (·.2)).Perm (onceL (ks.map (·.2))) := (List.perm_ext_iff_of_nodup R.nd (onceL_nodup _)).mpr fun k => by
    rw [onceL_mem]
    constructor
    · intro hk
      obtain ⟨p, hp, rfl⟩ := List.mem_map.mp hk
      exact List.mem_map.mpr ⟨p, List.mem_of_mem_take (g.sub p hp), rfl⟩
    · intro hk
      obtain ⟨p, hp, rfl⟩ := List.mem_map.mp hk
      exact g.all p (by rw [List.take_length]; exact hp)
  have hc2 : es.size = (onceL (ks.map (·.2))).length := by
    have h := congrArg List.length R.rows
    unfold rowsOf at h
    rw [Array.length_toList, List.length_map] at h
    rw [h, ← pm.length_eq, List.length_map]
  have hfew := R.few
  have hsz : es.size = L.length := by rw [hc2, ← pm.length_eq, List.length_map]
  exact call_len_set ho hex hd (SetTR.fits (s := { s1 with heap := h', toks := tk }) R) (by omega) ⟨.int (onceL (ks.map (·.2))).length, H1, (I1.kept k).tok _, ⟨_, by rw [hc2]⟩, q1⟩
end
end L2.Ms

/-! # Mst: set(xs) of a list of texts, sorted(set(..)) -/
namespace L2.Ms
open PySem PySem.Spec PyProof.Rows Mv
open PySem.Froz (SD sObj tailTx addTx TxOk add_x add_ok is_str)
/-- the payload can be walked -/
def Wlk (w : World) (D : SD) : Prop := Ris D.2.2.place.toList ∧ (w.params.followText "set-order" = true ∨ D.2.2.led = true)
theorem tail_wlk {w : World} {ep : Nat} {es1 : Array (Int × Value)} {t2 : SetTable} {wd : Bool} (h : Wlk w (es1, ep, t2)) : Wlk w (tailTx ep es1 t2 wd) := by
  unfold tailTx
  by_cases c : (!wd && t2.tooFull) = true
  · rw [if_pos c]
    exact ⟨relayAll_ris t2 es1 _, h.2.imp id fun z => by show (relayAll t2 es1 _).2.1.led = true; rw [relayAll_led]; exact z⟩
  · rw [if_neg c]
    exact h
theorem add_wlk {w : World} {D : SD} {hsh : Int} {v : Value} (h : Wlk w D) : Wlk w (addTx hsh v D) := by
  obtain ⟨es, ep, t⟩ := D
  have r := layNew_ris t es hsh v h.1
  have l := layNew_led t es hsh v
  refine tail_wlk ⟨?_, h.2.imp id fun z => ?_⟩
  · show Ris (if _ then _ else _ : SetTable).place.toList
    split <;> exact r
  · show (if _ then _ else _ : SetTable).led = true
    split <;> (show (layNew t es hsh v).2.1.led = true; rw [l]; exact z)
/-- the set of texts at a: its members, told without doubles -/
def SetX (P : Program) (w : World) (g : Heap) (a : Addr) (l : List Str) : Prop := ∃ D : SD, g.get? a = some (sObj "set" D) ∧ TxOk P w D l ∧ Wlk w D ∧ l.Nodup
section
variable {P : Program} {w : World} {A : Around} {E : Value → Shared → Prop} {s : Shared}
theorem SetX.at {g g' : Heap} {a : Addr} {l : List Str} (R : SetX P w g a l) (k : ∀ o, g.get? a = some o → g'.get? a = some o) : SetX P w g' a l := by
  obtain ⟨D, h1, h2⟩ := R
  exact ⟨D, k _ h1, h2⟩
/-- one that is there already -/
theorem add_old {a : Addr} {T : String} {D : SD} {l : List Str} {k : Str} {u : Tok} {Q : Bool → Shared → Prop} (got : s.heap.get? a = some (sObj T D)) (ok : TxOk P w D l) (hm : k ∈ l) (room : l.length < scanBound)
    (h : Q false s) : wpAny (model P w) A (setAddHashed a (.str k u) (hashStr w k)) Q E s := by
  obtain ⟨es, ep, t⟩ := D
  have dat : (sObj T (es, ep, t)).data = .set es ep t := rfl
  have fits : t.fits es.size = true := ok.fit
  have el : ElemsOf (strKind P w) es.toList := ok.el
  have few : es.size < scanBound := by have q : es.size = l.length := ok.sz; omega
  have isK : (strKind P w).is k (.str k u) = true := is_str k u
  unfold setAddHashed setAddHashedIn
  refine wpAny_holding (wpAny_bind (wpAny_setState_of got dat fits ?_))
  dsimp only
  rw [byScan_of rfl few el]
  simp only [↓reduceIte]
  unfold setAddByScan
  refine wpAny_bind (wpAny_bind (wpAny_rule (wpAny_bind (wpAny_setScan_of (knd := strKind P w) (k := k) isK got dat fits el ?_))))
  cases q : List.findIdx? (fun e => (strKind P w).is k e.2) es.toList with
  | some j => exact wpAny_pure (wpAny_pure h)
  | none =>
    obtain ⟨e, he, hi⟩ := (ok.mem k).mp hm
    have := List.findIdx?_eq_none_iff.mp q e he
    rw [hi] at this
    cases this
/-- the loop of set(xs) -/
theorem txt_loop {I : Addr} {fp wr : List Addr} {G : Array GenState → Array GenState → Prop} {n : Nat} {Pv : Nat → Value → Prop} {St : Nat → Shared → Prop} {R : Result → Shared → Prop}
    (W : WalksS P w A.in1 I fp wr G n Pv St) (S : Addr) (out : S ∉ fp) (xs : List Str) (len : n = xs.length) (room : xs.length + 1 < scanBound) (vals : ∀ i v, Pv i v → ∃ k t, xs[i]? = some k ∧ v = .str k t) :
    ∀ (k i : Nat) (s : Shared), n - i = k → i ≤ n → St i s → (∃ l : List Str, l.length ≤ i ∧ SetX P w s.heap S l ∧ ∀ z, z ∈ l ↔ z ∈ xs.take i) →
      (∀ s' l, Moved (S :: wr) G s s' → l.length ≤ n → SetX P w s'.heap S l → (∀ z, z ∈ l ↔ z ∈ xs) → R (.ok (.ret .none)) s') →
      codeAny (model P w) A (.builtin "set.update.loop" ⟨[.ref S, .ref I], []⟩) R s := by
  have nw : S ∉ wr := fun q => out (W.sub _ q)
  have more : ∀ b ∈ wr, b ∈ S :: wr := fun b q => List.mem_cons_of_mem _ q
  intro k
  induction k with
  | zero =>
    intro i s e hi st ⟨l, hl, hS, hm⟩ fin
    obtain rfl : i = n := by omega
    refine codeAny_builtin F.entry_set_update_loop ?_
    rw [Around.under_plainId F.plain_set_update_loop _]
    refine wpAny_bind (m := pyNext (.ref I)) (W.done s _ _ st fun s' mv => ?_)
    refine wpAny_pure (fin s' l (mv.mono more) hl (hS.at fun o q => mv.heap S o nw q) fun z => ?_)
    rw [hm z, List.take_of_length_le (by omega)]
  | succ k ih =>
    intro i s e hi st ⟨l, hl, hS, hm⟩ fin
    have hlt : i < n := by omega
    refine codeAny_builtin F.entry_set_update_loop ?_
    rw [Around.under_plainId F.plain_set_update_loop _]
    refine wpAny_bind (m := pyNext (.ref I)) (W.item i s _ _ hlt st fun v s' hv st' mv => ?_)
    obtain ⟨z, t, hz, rfl⟩ := vals i v hv
    have hS' : SetX P w s'.heap S l := hS.at fun o q => mv.heap S o nw q
    have tk : ∀ y, y ∈ xs.take (i + 1) ↔ y ∈ xs.take i ∨ y = z := fun y => by
      rw [List.take_add_one, hz]; simp
    refine wpAny_bind (m := holding [Value.str z t] (setAdd S (.str z t))) (wpAny_holding ?_)
    unfold setAdd
    refine wpAny_holding (wpAny_bind ((strKind P w).pyHash (k := z) (is_str _ _) ?_))
    obtain ⟨D, o1, o2, o3, o4⟩ := hS'
    by_cases hz2 : z ∈ l
    · refine add_old (s := { s' with toks := s'.toks + 1 }) o1 o2 hz2 (by omega) ?_
      refine wpAny_pure ⟨plainId_quiet F.plain_set_update_loop _, ih (i + 1) _ (by omega) hlt (W.frame _ s' _ _ st' (Nat.le_succ _) fun b _ o q => q) ⟨l, by omega, ⟨D, o1, o2, o3, o4⟩, fun y => ?_⟩ fun s'' l2 mv2 h2 hS2 hm2 => ?_⟩
      · rw [tk, ← hm y]
        exact ⟨.inl, fun q => q.elim id fun q => q ▸ hz2⟩
      · exact fin s'' l2 (Moved.trans W.gtrans ((mv.mono more).then_heap (Nat.le_succ _) fun b o _ q => q) mv2) h2 hS2 hm2
    · refine add_x (s := { s' with toks := s'.toks + 1 }) o1 o2 hz2 (by omega) ?_
      have sb : Heap.SameBut S s'.heap (s'.heap.update S fun _ => sObj "set" (addTx (hashStr w z) (.str z t) D)) := Heap.SameBut.update s'.heap S _
      have got : (s'.heap.update S fun _ => sObj "set" (addTx (hashStr w z) (.str z t) D)).get? S = some (sObj "set" (addTx (hashStr w z) (.str z t) D)) := Heap.get?_update_self _ o1 rfl
      refine wpAny_pure ⟨plainId_quiet F.plain_set_update_loop _, ih (i + 1) _ (by omega) hlt (W.frame _ s' _ _ st' (Nat.le_succ _) fun b hb o q => ?_) ⟨z :: l, by simp; omega, ⟨_, got, add_ok t o2, add_wlk o3, List.nodup_cons.mpr ⟨hz2, o4⟩⟩, fun y => ?_⟩ fun s'' l2 mv2 h2 hS2 hm2 => ?_⟩
      · rw [sb.2 b (fun e : b = S => out (by rw [← e]; exact hb))]; exact q
      · rw [tk, ← hm y, List.mem_cons]
        exact Or.comm
      · refine fin s'' l2 (Moved.trans W.gtrans ((mv.mono more).then_heap (Nat.le_succ _) fun b o hb q => ?_) mv2) h2 hS2 hm2
        rw [sb.2 b (fun e : b = S => hb (by rw [e]; exact List.mem_cons_self))]; exact q
theorem txt_at {its : List Value} {xs : List Str} (h : StrsAre its xs) {i : Nat} {v : Value} (hv : its[i]? = some v) : ∃ k t, xs[i]? = some k ∧ v = .str k t := by
  induction h generalizing i with
  | nil => simp at hv
  | cons n t hr ih =>
    cases i with
    | zero => simp at hv; exact ⟨_, t, by simp, hv.symm⟩
    | succ j => simp at hv; simpa using ih hv
theorem strs_len {its : List Value} {xs : List Str} (h : StrsAre its xs) : its.length = xs.length := by
  induction h with
  | nil => rfl
  | cons n t hr ih => simp [ih]
set_option maxHeartbeats 3200000 in
theorem set_ofTxt {l : Addr} {its : Array Value} (xs : List Str) {Q : Value → Shared → Prop} (noH : A.handled = none) (isL : s.heap.IsList l its) (isT : StrsAre its.toList xs) (few : xs.length + 1 < scanBound)
    (k : ∀ (g : Heap) (tk : Nat) (ls : List Str), SetX P w g s.heap.objs.size ls → ls.length ≤ xs.length → (∀ z, z ∈ ls ↔ z ∈ xs) → (∀ b o, s.heap.get? b = some o → g.get? b = some o) → Q (.ref s.heap.objs.size) { s with heap := g, toks := tk }) :
    wpAny (model P w) A (call (.type "set") [.ref l]) Q E s := by
  have sz : its.size = xs.length := by have q := strs_len isT; rwa [Array.length_toList] at q
  obtain ⟨_, _, hmro⟩ := F.called_set.mro
  have hmade := F.called_set.made; have hsub := F.called_set.sub
  refine wpAny_call (codeAny_of_tree ?_); show wpAny _ _ (callAny (.type "set") _) _ _ _
  refine wpAny_pure ⟨Code.quiet_builtin _ (by decide +kernel), codeAny_builtin F.entry_type_call ?_⟩; rw [Around.under_plain (weight_type_call_type "set" [.ref l] []) rfl]
  have h1 := F.called_set.notType; have h2 := F.called_set.canCreate; have hct := F.typeCall_set_1 (.ref l)
  repeat (any_goals (first | assumption | wp_step))
  refine codeAny_mono (code_set_led1 (.ref l) (E := E) (Q₁ := fun obj t => obj = .ref s.heap.objs.size ∧ t = { s with heap := s.heap.push (newSet w) }) ⟨rfl, rfl⟩) fun r t hr => ?_
  cases r with
  | error e => exact hr
  | ok fl =>
    cases fl with
    | ret obj =>
      obtain ⟨rfl, rfl⟩ := hr
      have hS : (s.heap.push (newSet w)).get? s.heap.objs.size = some (newSet w) := Heap.get?_push_size _ rfl
      have hT : Shared.TypeIs { s with heap := s.heap.push (newSet w) } (.ref s.heap.objs.size) "set" := ⟨_, hS, rfl⟩
      have hli := F.called_set.init.lookup; have hbi := F.called_set.init.bind (.ref s.heap.objs.size)
      repeat (any_goals (first | assumption | wp_step))
      refine codeAny_mono (codeAny_call_builtin (R := wants (fun r t => r = .none ∧ ∃ g tk ls, t = { s with heap := g, toks := tk } ∧ SetX P w g s.heap.objs.size ls ∧ ls.length ≤ xs.length ∧ (∀ z, z ∈ ls ↔ z ∈ xs) ∧ ∀ b o, s.heap.get? b = some o → g.get? b = some o) E) F.called_set.init.plain F.entry_set_init (check_set_init_1 hT ?_)) fun r₂ t hr₂ => ?_
      · obtain ⟨ol, hol, hcl, nl, hdl⟩ := isL
        obtain ⟨ocls, odict, odata, oslots⟩ := ol; simp only at hcl hdl; subst hcl; subst hdl
        have hol' : (s.heap.push (newSet w)).get? l = some { cls := .type "list", dict := odict, data := .seq its nl, slots := oslots } := Heap.get?_push_of_some _ hol
        have hsls := F.sub_list_set; have hslf := F.sub_list_frozenset
        have hne : (Value.type "list" == Value.type "dict") = false := by decide
        have hl1 : (s.heap.push (newSet w)).IsList l its := ⟨_, hol', rfl, nl, rfl⟩
        unfold Builtin.«set.__init__» noKeywords Builtin.Frozenset.updateFrom; generalize hPI : pyIter = PI
        wp_walk
        subst hPI
        refine wpAny_pyIter_list hl1 (wpAny_bind (wpAny_runValue ?_))
        have lS : l < s.heap.objs.size := Heap.lt_size hol
        have noH3 : A.in1.in1.in1.handled = none := by simp [noH]
        have neI : l ≠ (s.heap.push (newSet w)).objs.size := by rw [Heap.size_push]; exact Nat.ne_of_lt (Nat.lt_succ_of_lt lS)
        have nSf : s.heap.objs.size ∉ [(s.heap.push (newSet w)).objs.size, l] := by
          rw [Heap.size_push]; simp only [List.mem_cons, List.mem_singleton, List.not_mem_nil, or_false, not_or]
          exact ⟨Nat.ne_of_lt (Nat.lt_succ_self _), Nat.ne_of_gt lS⟩
        have vals : ∀ (i : Nat) (v : Value), its[i]? = some v → ∃ k t, xs[i]? = some k ∧ v = .str k t := fun i v hv => txt_at isT (by rw [Array.getElem?_toList]; exact hv)
        refine txt_loop ((Walks.list noH3 _ l neI its).toS) s.heap.objs.size nSf xs sz few vals (its.size - 0) 0 _ (by omega) (Nat.zero_le _) ⟨⟨_, Heap.get?_push_size _ rfl, rfl, rfl⟩, (hl1.push _)⟩ ?zero ?rest
        case zero =>
          have got : ((s.heap.push (newSet w)).push { cls := .type "list_iterator", data := .fields #[.ref l, .int 0 0] }).get? s.heap.objs.size = some (newSet w) := Heap.get?_push_of_some _ hS
          refine ⟨[], Nat.le_refl 0, ⟨(#[], 0, .fresh 0 0 (!w.params.followText "set-order")), got, TxOk.nil (by rfl), ⟨List.Pairwise.nil, ?_⟩, List.nodup_nil⟩, fun z => by simp⟩
          cases q : w.params.followText "set-order"
          · exact .inr rfl
          · exact .inl rfl
        case rest =>
          intro t ls mv hc R hm
          obtain ⟨g, g2, d2, tk2, os2⟩ := t
          have eg : g2 = s.gens := mv.gens; have ed : d2 = s.drawn := mv.drawn; have eo : os2 = s.os := mv.os
          subst eg; subst ed; subst eo
          show wpAny _ _ _ _ _ _
          refine wpAny_pure ?_
          show wpAny _ _ (ret Value.none) _ _ _
          rw [sz] at hc
          refine wpAny_pure ⟨rfl, g, tk2, ls, rfl, R, hc, hm, fun b o e => ?_⟩
          have b0 : b < s.heap.objs.size := Heap.lt_size e
          have b2 : b ≠ (s.heap.push (newSet w)).objs.size := by rw [Heap.size_push]; exact Nat.ne_of_lt (Nat.lt_succ_of_lt b0)
          exact mv.heap b o (by simp only [List.mem_cons, List.mem_singleton, List.not_mem_nil, or_false, not_or]; exact ⟨Nat.ne_of_lt b0, b2⟩) (Heap.get?_push_of_some _ (Heap.get?_push_of_some _ e))
      · cases r₂ with
        | error e => exact hr₂
        | ok fl₂ =>
          cases fl₂ with
          | ret r =>
            obtain ⟨rfl, g, tk, c, rfl, R, hc, hm, kp⟩ := hr₂
            repeat (any_goals (first | assumption | wp_step))
            exact k _ _ _ R hc hm kp
          | _ => exact hr₂.elim
    | _ => exact hr.elim
end
/-! ### sorted -/
theorem perm_sub {α : Type} [DecidableEq α] : ∀ {l m : List α}, l.Nodup → (∀ x ∈ l, x ∈ m) → m.length = l.length → l.Perm m
  | [], m, _, _, e => by rw [List.length_eq_zero_iff.mp e]
  | a :: r, m, nd, sub, e => by
    obtain ⟨n1, n2⟩ := List.nodup_cons.mp nd
    have ha := sub a List.mem_cons_self
    have q := perm_sub (l := r) (m := m.erase a) n2 (fun x hx => (List.mem_erase_of_ne (show x ≠ a from fun e => n1 (by rw [← e]; exact hx))).mpr (sub x (List.mem_cons_of_mem _ hx))) (by rw [List.length_erase_of_mem ha, e]; rfl)
    exact (q.cons a).trans (List.perm_cons_erase ha).symm
abbrev leS (a b : Str) : Bool := decide (a.cps.toList ≤ b.cps.toList)
theorem leS_tr (a b c : Str) (h1 : leS a b = true) (h2 : leS b c = true) : leS a c = true := decide_eq_true (List.le_trans (of_decide_eq_true h1) (of_decide_eq_true h2))
theorem leS_to (a b : Str) : (leS a b || leS b a) = true := by
  rcases List.le_total a.cps.toList b.cps.toList with h | h
  · rw [show leS a b = true from decide_eq_true h]; rfl
  · rw [show leS b a = true from decide_eq_true h, Bool.or_true]
theorem leS_as {a b : Str} (h1 : leS a b = true) (h2 : leS b a = true) : a = b := by
  have e : a.cps.toList = b.cps.toList := List.le_antisymm (of_decide_eq_true h1) (of_decide_eq_true h2)
  obtain ⟨a⟩ := a
  obtain ⟨b⟩ := b
  congr 1
  exact Array.toList_inj.mp e
theorem sortS_eq {l m : List Str} (p : l.Perm m) : l.mergeSort leS = m.mergeSort leS :=
  List.Perm.eq_of_pairwise (le := fun a b => leS a b = true) (fun a b _ _ h1 h2 => leS_as h1 h2) (List.pairwise_mergeSort leS_tr leS_to l) (List.pairwise_mergeSort leS_tr leS_to m)
    ((List.mergeSort_perm l leS).trans (p.trans (List.mergeSort_perm m leS).symm))
def txtV : Value → Str
  | .str k _ => k
  | _ => Str.empty
abbrev IsTx (v : Value) (b : Str) : Prop := ∃ t, v = .str b t
theorem each_tx : ∀ {vs : List Value}, (∀ v ∈ vs, ∃ k t, v = Value.str k t) → PySem.W.EachIs IsTx vs (vs.map txtV)
  | [], _ => .nil
  | v :: r, h => by
    obtain ⟨k, t, rfl⟩ := h v List.mem_cons_self
    exact .cons ⟨t, rfl⟩ (each_tx fun u hu => h u (List.mem_cons_of_mem _ hu))
theorem each_rd {g : Heap} {a : Addr} : ∀ {vs : List Value} {bs : List Str}, PySem.W.EachIs IsTx vs bs → PySem.W.EachIs (fun v b => ∃ as, Reads g v (PyData.str b) as ∧ a ∉ as) vs bs
  | _, _, .nil => .nil
  | _, _, .cons ⟨t, e⟩ r => .cons ⟨[], by rw [e]; exact .str _ t, by simp⟩ (each_rd r)
theorem vals_tx : ∀ {us : List Value} {bs : List Str}, PySem.W.EachIs IsTx us bs → Vals (bs.map V.str) us
  | _, _, .nil => .nil
  | _, _, .cons ⟨t, e⟩ r => .cons ⟨t, e⟩ (vals_tx r)
section
variable {P : Program} {w : World} {A : Around} {E : Value → Shared → Prop} {s : Shared}
theorem sorted_txt {a : Addr} {l : List Str} {Q : Value → Shared → Prop} (R : SetX P w s.heap a l) (noH : A.handled = none) (few : l.length ≤ 60) (hu : A.units + 10 < cLine)
    (fin : ∀ s' p (out : List Value) (c : Nat), (∀ b o, s.heap.get? b = some o → s'.heap.get? b = some o) → s'.gens = s.gens → s'.os = s.os → s.heap.objs.size ≤ p →
      s'.heap.get? p = some (seqObj "list" out.toArray c) → Vals ((l.mergeSort leS).map V.str) out → Q (.ref p) s') :
    wpAny (model P w) A (call (.builtin "sorted") [.ref a]) Q E s := by
  obtain ⟨⟨es, ep, t⟩, got, ok, wk, nd⟩ := R
  have sz : es.size = l.length := ok.sz
  have hsb : es.size < scanBound := by rw [sz]; unfold scanBound; omega
  have el : ElemsOf (strKind P w) es.toList := ok.el
  refine Calls.call_function_entry kind_sorted plain_sorted entry_sorted (args_sorted1 _) ?_
  unfold Builtin.«sorted»
  refine wpAny_bind (m := checkCount "sorted" 1 1 _) (wpAny_pure ?_)
  refine wpAny_bind (collect_set (A := A.in1) noH ⟨_, got, rfl, rfl⟩ ok.fit hsb wk.1 wk.2 fun s1 vs k1 hz g1 o1 pm => ?_)
  have isS : ∀ v ∈ es.toList.map (·.2), ∃ k t, v = Value.str k t := fun v hv => by
    obtain ⟨e, he, rfl⟩ := List.mem_map.mp hv
    obtain ⟨⟨k, hk, _⟩, _⟩ := el e he
    have hk : Value.isStrOf k e.2 = true := hk
    cases he2 : e.2 with
    | str x tk => exact ⟨x, tk, rfl⟩
    | _ => rw [he2] at hk; simp [Value.isStrOf] at hk
  have isV : ∀ v ∈ vs, ∃ k t, v = Value.str k t := fun v hv => isS v (pm.mem_iff.mp hv)
  have vl : vs.length = l.length := by rw [pm.length_eq, List.length_map, Array.length_toList, sz]
  have pl : l.Perm (vs.map txtV) := by
    refine (perm_sub nd (fun x hx => ?_) (by rw [List.length_map, List.length_map, Array.length_toList, sz])).trans (pm.map txtV).symm
    obtain ⟨e, he, q⟩ := (ok.mem x).mp hx
    obtain ⟨k, tk, e2⟩ := isS e.2 (List.mem_map.mpr ⟨e, he, rfl⟩)
    have q : Value.isStrOf x e.2 = true := q
    rw [e2] at q
    have ek : k = x := by simpa [Value.isStrOf] using q
    exact List.mem_map.mpr ⟨e.2, List.mem_map.mpr ⟨e, he, rfl⟩, by rw [e2]; exact ek⟩
  refine wpAny_bind (wpAny_newList ?_ (by rw [vl, sizeLine_eq]; omega))
  have lst : (s1.heap.push (seqObj "list" vs.toArray 0)).get? s1.heap.objs.size = some (seqObj "list" vs.toArray 0) := Heap.get?_push_size _ rfl
  have ei := each_tx isV
  refine wpAny_bind (wpAny_holding (PySem.W.list_sort_data (R := IsTx) (enc := PyData.str) lst ei (each_rd ei) (PySem.W.AllAlike.of fun _ _ => by simp [PySem.W.alike]) (PySem.W.Sortable.others fun b => ⟨by simp, by simp⟩) (by rw [List.length_map, vl, sizeLine_eq]; omega) (fun b _ => ?_) fun out ho eo => ?_))
  · show A.in1.units + 1 + (PyData.str b).depth < cLine
    have : (PyData.str b).depth = 0 := by simp [PyData.depth]
    have h2 : A.in1.units ≤ A.units + 5 := by simp [Around.in1]
    omega
  obtain ⟨c, hc⟩ := sortedHeap_at (vs := vs) (out := out.toArray) lst
  have es2 : (vs.map txtV).mergeSort (PySem.W.dataLe false PyData.str) = l.mergeSort leS := by
    rw [show (PySem.W.dataLe false PyData.str) = leS from PySem.W.dataLe_str fun b => b]
    exact (sortS_eq pl).symm
  rw [es2] at eo
  refine wpAny_pure ⟨_, rfl, fin { s1 with heap := sortedHeap (s1.heap.push (seqObj "list" vs.toArray 0)) s1.heap.objs.size vs out.toArray } s1.heap.objs.size out c (fun b u e => ?_) g1 o1 hz hc (vals_tx eo)⟩
  have q := k1 b u e
  have hlt := Heap.lt_size q
  show (sortedHeap (s1.heap.push (seqObj "list" vs.toArray 0)) s1.heap.objs.size vs out.toArray).get? b = some u
  rw [sortedHeap_old (Nat.ne_of_lt hlt) (by rw [size_push']; exact Nat.lt_succ_of_lt hlt)]
  exact Heap.get?_push_of_some _ q
end
theorem onceS_mem {k : Str} : ∀ ns : List Str, k ∈ onceS ns ↔ k ∈ ns
  | [] => Iff.rfl
  | a :: r => by
    simp only [onceS, List.mem_cons, List.mem_filter, onceS_mem r, decide_eq_true_eq]
    by_cases h : k = a <;> simp [h]
theorem onceS_nodup : ∀ ns : List Str, (onceS ns).Nodup
  | [] => .nil
  | a :: r => by
    simp only [onceS, List.nodup_cons]
    exact ⟨by simp, (onceS_nodup r).filter _⟩
theorem strs_of : ∀ {ys : List Str} {us : List Value}, Vals (ys.map V.str) us → StrsAre us ys
  | [], _, h => by cases h; exact .nil
  | y :: r, _, h => by
    cases h with
    | cons a t => obtain ⟨tk, rfl⟩ := a; exact .cons _ tk (strs_of t)
section
variable {X : Cx}
theorem w_srtTxt {a : Expr} {p p2 q pos : Pos} {σ : St} {H : Hp} {Q : VK} (hc : X.calm = true) (hu : X.A.units + 64 < cLine) (hg : Gl X "sorted") (hm : X.mg "sorted" = none) (hg2 : Gl X "set") (hm2 : X.mg "set" = none) (na : starEach [a] X.env = (false, eval a X.env) :: starEach [] X.env)
    (h : wE X a σ H fun x H1 => ∃ (l : Addr) (ys : List Str), x = V.ref l ∧ SqL X.K H1 l (ys.map V.str) ∧ ys.length ≤ 60 ∧ ∀ p, H1 p = none → Q (.ref p) (upd H1 p (.lst ((sortS (onceS ys)).map V.str)))) :
    wE X (.Call (.Name "sorted" p) [.Call (.Name "set" p2) [a] [] q] [] pos) σ H Q := fun pins s I => by
  refine Call_ (ld_blt I hg hm (by decide +kernel : bootBuiltins "sorted" = some (.builtin "sorted")) ?_)
  refine PyProof.Rows.callWith_builtin1 (PyProof.Rows.args_cons ?_ rfl) rfl rfl
  refine Call_ (ld_blt I hg2 hm2 PyProof.Rows.boot_set ?_)
  refine PyProof.Rows.callWith_type1 (PyProof.Rows.args_cons (thn (h pins s I) fun v s1 ⟨x, H1, I1, r1, q1⟩ => PyProof.Rows.args_nil ?_) na) na rfl
  obtain ⟨l, ys, rfl, hq, hl, q1⟩ := q1
  cases r1
  obtain ⟨its, rv, pl, hz⟩ := I1.list hq
  refine set_ofTxt ys (I1.ok.hd hc) pl.isList (by simpa using strs_of rv) (by unfold scanBound; omega) fun g tk ls R hls hmem kp => PyProof.Rows.args_nil ?_
  have J : Inv X pins σ H1 { s1 with heap := g, toks := tk } := I1.kept kp
  refine sorted_txt R (J.ok.hd hc) (by omega) (by omega) fun s' p out c k gg o hp hgt hv => ?_
  obtain ⟨_, _, _, _, nd⟩ := R
  have e1 : ls.mergeSort leS = sortS (onceS ys) := sortS_eq ((List.perm_ext_iff_of_nodup nd (onceS_nodup ys)).mpr fun k => (hmem k).trans (onceS_mem ys).symm)
  rw [e1] at hv
  have hlen : ((sortS (onceS ys)).map V.str).length ≤ sizeLine := by
    rw [← e1, List.length_map, List.length_mergeSort, sizeLine_eq]; omega
  have hn : H1 p = none := J.hok.fresh hp
  have J2 : Inv X pins σ (upd H1 p (.lst ((sortS (onceS ys)).map V.str))) { ({ s1 with heap := g, toks := tk } : Shared) with heap := s'.heap, gens := s'.gens, drawn := s'.drawn, toks := s'.toks } :=
    J.call (ch := []) (Un.laid k hp hn) (J.hok.laid k hp ⟨hlen, out, c, hv, hgt⟩) (by rw [gg]; exact J.bare) (fun _ z => nomatch z)
  have e2 : s' = { ({ s1 with heap := g, toks := tk } : Shared) with heap := s'.heap, gens := s'.gens, drawn := s'.drawn, toks := s'.toks } := by
    cases s'; cases s1; cases o; rfl
  rw [e2]
  exact ⟨.ref p, _, J2, rfl, q1 p hn⟩
end
end L2.Ms

/-! # Msu: dict(zip(xs, ys)), text.index -/
namespace L2.Ms
open PySem PySem.Spec PyProof.Rows Mv
theorem kv_zip : ∀ {ys : List Str} {vs : List V} {us : List Value}, Vals vs us → KV ((ys.map (Sum.inr : Str → Key)).zip vs) ((ys.map (Sum.inr : Str → Key)).zip us)
  | [], _, _, _ => by simp; exact .nil
  | _ :: _, _, _, .nil => by simp; exact .nil
  | y :: r, _, _, .cons h t => by
    simp only [List.map_cons, List.zip_cons_cons]
    exact .cons ⟨rfl, h⟩ (kv_zip t)
theorem zip_keys {α β : Type} : ∀ {l : List α} {m : List β}, l.length ≤ m.length → (l.zip m).map (·.1) = l
  | [], _, _ => by simp
  | a :: l, [], h => by simp at h
  | a :: l, b :: m, h => by
    simp only [List.zip_cons_cons, List.map_cons, zip_keys (l := l) (m := m) (by simpa using h)]
section
variable {X : Cx}
theorem w_dictZip {a b : Expr} {p p2 q pos : Pos} {σ : St} {H : Hp} {Q : VK} (hc : X.calm = true) (hg : Gl X "dict") (hm : X.mg "dict" = none) (hg2 : Gl X "zip") (hm2 : X.mg "zip" = none)
    (na : starEach [a, b] X.env = (false, eval a X.env) :: starEach [b] X.env) (nb : starEach [b] X.env = (false, eval b X.env) :: starEach [] X.env)
    (h : wE X a σ H fun x H1 => wE X b σ H1 fun y H2 => ∃ (l m : Addr) (ys : List Str) (vs : List V), x = V.ref l ∧ y = V.ref m ∧ SqL X.K H2 l (ys.map V.str) ∧ SqL X.K H2 m vs ∧ ys.length = vs.length ∧ ys.Nodup ∧ ys.length ≤ 60 ∧ ∀ p, H2 p = none → Q (.ref p) (upd H2 p (.dK ((ys.map Sum.inr).zip vs)))) :
    wE X (.Call (.Name "dict" p) [.Call (.Name "zip" p2) [a, b] [] q] [] pos) σ H Q := fun pins s I => by
  refine Call_ (ld_blt I hg hm (by decide +kernel : bootBuiltins "dict" = some (.type "dict")) ?_)
  refine PyProof.Rows.callWith_type1 (PyProof.Rows.args_cons ?_ rfl) rfl rfl
  refine Call_ (ld_blt I hg2 hm2 (by decide +kernel : bootBuiltins "zip" = some (.type "zip")) ?_)
  refine PyProof.Rows.callWith_type1 (PyProof.Rows.args_cons (thn (h pins s I) fun v s1 ⟨x, H1, I1, r1, q1⟩ => PyProof.Rows.args_cons (thn (q1 pins s1 I1) fun u s2 ⟨y, H2, I2, r2, q2⟩ => PyProof.Rows.args_nil ?_) nb) na) na (by rw [nb]; rfl)
  obtain ⟨l, m, ys, vs, rfl, rfl, hl, hv, hlen, nd, h60, q2⟩ := q2
  cases r1
  cases r2
  obtain ⟨it1, rv1, pl1, _⟩ := I2.list hl
  obtain ⟨it2, rv2, pl2, _⟩ := I2.list hv
  have sa := strs_of rv1
  have l1 : it1.length = ys.length := strs_len sa
  have l2 : vs.length = it2.length := rv2.length
  have lt1 : @LT.lt Nat _ l s2.heap.objs.size := by obtain ⟨o, e, _⟩ := pl1.isList; exact Heap.lt_size e
  have lt2 : @LT.lt Nat _ m s2.heap.objs.size := by obtain ⟨o, e, _⟩ := pl2.isList; exact Heap.lt_size e
  refine call_zip_2 pl1.isList pl2.isList fun g hZ hTI hTO hi1 hi2 hsz hk => PyProof.Rows.args_nil ?_
  have J : Inv X pins σ H2 { s2 with heap := g } := I2.kept (t' := s2.toks) hk
  have ap : ZipApart (s2.heap.objs.size + 4) (s2.heap.objs.size + 2) (s2.heap.objs.size + 3) s2.heap.objs.size (s2.heap.objs.size + 1) l m := by
    constructor <;> (intro e; have e : @Eq Nat _ _ := e; omega)
  let kvs : List (Key × Value) := (ys.map (Sum.inr : Str → Key)).zip it2
  have kl : kvs.length = ys.length := by simp [kvs]; omega
  have keys : kvs.map (·.1) = ys.map Sum.inr := zip_keys (by simp; omega)
  have nk : (kvs.map (·.1)).Nodup := by
    rw [keys]
    exact List.Pairwise.map _ (fun x y hn e => hn (by injection e)) nd
  refine PySem.call_dict_pairs (s := { s2 with heap := g }) (knd := mixKind X.prog X.w) (kvs := kvs) (PairArg.zip _ _ _ _ _ l m ap it1.toArray it2.toArray) (J.ok.hd hc) ⟨hZ, hTI, ⟨_, _, hTO⟩, hi1, hi2, pl1.isList.at fun o e => hk _ o e, pl2.isList.at fun o e => hk _ o e⟩ ⟨?_, fun i key v hr => ?_⟩ ?_ fun g2 tk hd hk2 => ?_
  · rw [kl]; simp; omega
  · obtain ⟨h1, h2⟩ := hr
    obtain ⟨k, t, hk1, rfl⟩ := txt_at sa (i := i) (v := key) (by simpa using h1)
    refine ⟨.inr k, ?_, ?_⟩
    · show ((ys.map (Sum.inr : Str → Key)).zip it2)[i]? = _
      rw [List.getElem?_zip_eq_some]
      exact ⟨by rw [List.getElem?_map, hk1]; rfl, by simpa using h2⟩
    · exact kV_is (k := .inr k) ⟨t, rfl⟩
  · simp; rw [sizeLine_eq]; omega
  rw [merged_nil_of_nodup kvs nk] at hd
  have hsz' : g.objs.size = s2.heap.objs.size + 5 := hsz
  have kept : ∀ b o, s2.heap.get? b = some o → g2.get? b = some o := fun b o e => by
    have hb : @LT.lt Nat _ b s2.heap.objs.size := Heap.lt_size e
    refine hk2 b o (fun hm => ?_) (hk b o e)
    simp only [List.mem_cons, List.not_mem_nil, or_false] at hm
    rcases hm with z | z | z | z <;> (have z : @Eq Nat _ _ := z; omega)
  have hn : H2 g.objs.size = none := I2.hok.fresh (by omega)
  have hbig : (g.objs.size == sysModules) = false := by
    have big : @LT.lt Nat _ sysModules s2.heap.objs.size := I2.big
    simp only [beq_eq_false_iff_ne]
    intro z
    have z : @Eq Nat _ _ := z
    omega
  refine ⟨.ref g.objs.size, upd H2 g.objs.size (.dK ((ys.map Sum.inr).zip vs)), I2.laid (t' := tk) kept (by omega) ⟨?_, hbig, kvs, kv_zip rv2, hd⟩, rfl, q2 _ hn⟩
  rw [List.length_zip, List.length_map, sizeLine_eq]; omega
end
end L2.Ms

/-! # Msz: dict(zip(text, xs)) -/
namespace L2.Ms
open PySem PySem.Spec PyProof.Rows Mv
section
variable {prog : Program} {w : World} {A : Around} {E : Value → Shared → Prop} {s : Shared} {z TI TO T i1 i2 : Addr} {fp1 fp2 : List Addr} {n1 n2 i : Nat} {P1 P2 : Nat → Value → Prop} {St1 St2 : Nat → Heap → Prop} {f : Bool} {oT : Obj}
/-- a zip whose last pair is still held by another: one more -/
theorem zd_item {Q : Value → Shared → Prop} (S : ZipSep2 z TI TO i1 i2 fp1 fp2) (D1 : Draws prog w A i1 fp1 n1 P1 St1) (D2 : Draws prog w A i2 fp2 n2 P2 St2)
    (hz : IsZipHeld s.heap z TI TO T f) (hT : s.heap.get? T = some oT) (hTI : IsTupOf2 s.heap TI (.ref i1) (.ref i2)) (st1 : St1 i s.heap) (st2 : St2 i s.heap) (l1 : i < n1) (l2 : i < n2)
    (hQ : ∀ x1 x2 h' tk, P1 i x1 → P2 i x2 → IsZipHeld h' z TI TO T true → St1 (i + 1) h' → St2 (i + 1) h' → IsTupOf2 h' s.heap.objs.size x1 x2 → (∀ c o, c ≠ z → c ≠ i1 → c ≠ i2 → s.heap.get? c = some o → h'.get? c = some o) → Q (.ref s.heap.objs.size) { s with heap := h', toks := tk }) :
    wpAny (model prog w) A (Builtin.«zip.__next__» ⟨[.ref z], []⟩) (fun fin s' => ∃ v, fin = .done (.ret v) ∧ Q v s') E s := by
  obtain ⟨hp, g, d, tk0, os⟩ := s
  show wpAny _ _ (field (.ref z) 2 >>= _) _ _ _
  refine wpAny_bind (wpAny_field hz rfl rfl ?_)
  show wpAny _ _ (field (.ref z) 3 >>= _) _ _ _
  refine wpAny_bind (wpAny_field hz rfl rfl (wpAny_bind (wpAny_seqItems hTI rfl ?_)))
  show wpAny _ _ (Builtin.SmallTypes.ownedTupleIsFree (.ref z) >>= _) _ _ _
  refine wpAny_bind (wpAny_tupleHeld_zip hz hT fun h₁ hz₁ hs₁ => ?_)
  simp only [Bool.false_eq_true, if_false]
  refine wpAny_bind ?_
  rw [← Array.forIn_toList]
  simp only [List.forIn_cons, List.forIn_nil]
  refine wpAny_bind (wpAny_bind (wpAny_holding ?_))
  show wpAny _ _ (Builtin.SmallTypes.nextOf (.ref i1) >>= _) _ _ ⟨h₁, g, d, tk0, os⟩
  refine wpAny_bind (D1.item i _ _ _ l1 (D1.over st1 hs₁ S.zf1) fun x1 h₂ tk1 p1 t1 hs₂ => wpAny_pure (wpAny_pure ?_))
  refine wpAny_bind (wpAny_bind (wpAny_holding ?_))
  show wpAny _ _ (Builtin.SmallTypes.nextOf (.ref i2) >>= _) _ _ ⟨h₂, g, d, tk1, os⟩
  refine wpAny_bind (D2.item i _ _ _ l2 (D2.over (D2.over st2 hs₁ S.zf2) hs₂ S.sep1_2) fun x2 h₃ tk2 p2 t2 hs₃ => wpAny_pure (wpAny_pure (wpAny_pure ?_)))
  replace hs₁ : Heap.SameBut z hp h₁ := hs₁
  replace hs₂ : Heap.SameBut i1 h₁ h₂ := hs₂
  replace hs₃ : Heap.SameBut i2 h₂ h₃ := hs₃
  show wpAny _ _ (newTuple [x1, x2] >>= _) _ _ _
  refine wpAny_bind (wpAny_newTuple (wpAny_pure ⟨_, rfl, ?_⟩))
  have hsz : h₃.objs.size = hp.objs.size := by rw [hs₃.1, hs₂.1, hs₁.1]
  have up : ∀ c o, h₃.get? c = some o → (h₃.push { cls := .type "tuple", data := .seq #[x1, x2] }).get? c = some o := fun c o e => Heap.get?_push_of_some _ e
  have hnew : IsTupOf2 (h₃.push { cls := .type "tuple", data := .seq #[x1, x2] }) h₃.objs.size x1 x2 := Heap.get?_push_size _ rfl
  rw [hsz] at hnew
  show Q (.ref h₃.objs.size) _
  rw [hsz]
  refine hQ x1 x2 _ tk2 p1 p2 (up _ _ (hs₃.extBut _ _ S.zi2 (hs₂.extBut _ _ S.zi1 hz₁))) (D1.frame _ _ _ (D1.over t1 hs₃ S.sep2_1) fun b _ o e => up b o e) (D2.frame _ _ _ t2 fun b _ o e => up b o e) hnew fun c o c1 c2 c3 e => up c o (hs₃.extBut _ _ c3 (hs₂.extBut _ _ c2 (hs₁.extBut _ _ c1 e)))
/-- .. none -/
theorem zd_end {Q : Fin → Shared → Prop} (S : ZipSep2 z TI TO i1 i2 fp1 fp2) (D1 : Draws prog w A i1 fp1 n1 P1 St1) (D2 : Draws prog w A i2 fp2 n2 P2 St2)
    (hz : IsZipHeld s.heap z TI TO T f) (hT : s.heap.get? T = some oT) (hTI : IsTupOf2 s.heap TI (.ref i1) (.ref i2)) (st1 : St1 i s.heap) (st2 : St2 i s.heap) (l1 : i ≤ n1) (l2 : i ≤ n2) (he : i = n1 ∨ i = n2)
    (hE : ∀ h' tk e, (∀ c o, c ≠ z → c ≠ i1 → c ≠ i2 → s.heap.get? c = some o → h'.get? c = some o) → (∃ o, h'.get? e = some o ∧ o.cls = .type "StopIteration") → E (.ref e) { s with heap := h', toks := tk }) :
    wpAny (model prog w) A (Builtin.«zip.__next__» ⟨[.ref z], []⟩) Q E s := by
  obtain ⟨hp, g, d, tk0, os⟩ := s
  show wpAny _ _ (field (.ref z) 2 >>= _) _ _ _
  refine wpAny_bind (wpAny_field hz rfl rfl ?_)
  show wpAny _ _ (field (.ref z) 3 >>= _) _ _ _
  refine wpAny_bind (wpAny_field hz rfl rfl (wpAny_bind (wpAny_seqItems hTI rfl ?_)))
  show wpAny _ _ (Builtin.SmallTypes.ownedTupleIsFree (.ref z) >>= _) _ _ _
  refine wpAny_bind (wpAny_tupleHeld_zip hz hT fun h₁ hz₁ hs₁ => ?_)
  simp only [Bool.false_eq_true, if_false]
  refine wpAny_bind ?_
  rw [← Array.forIn_toList]
  simp only [List.forIn_cons, List.forIn_nil]
  refine wpAny_bind (wpAny_bind (wpAny_holding ?_))
  show wpAny _ _ (Builtin.SmallTypes.nextOf (.ref i1) >>= _) _ _ ⟨h₁, g, d, tk0, os⟩
  replace hs₁ : Heap.SameBut z hp h₁ := hs₁
  by_cases c1 : i < n1
  · have e2 : i = n2 := by omega
    refine wpAny_bind (D1.item i _ _ _ c1 (D1.over st1 hs₁ S.zf1) fun x1 h₂ tk1 p1 t1 hs₂ => wpAny_pure (wpAny_pure ?_))
    replace hs₂ : Heap.SameBut i1 h₁ h₂ := hs₂
    refine wpAny_bind (wpAny_bind (wpAny_holding ?_))
    show wpAny _ _ (Builtin.SmallTypes.nextOf (.ref i2) >>= _) _ _ ⟨h₂, g, d, tk1, os⟩
    refine wpAny_bind (D2.done ⟨h₂, g, d, tk1, os⟩ _ _ (by rw [← e2]; exact D2.over (D2.over st2 hs₁ S.zf2) hs₂ S.sep1_2) fun h₃ e hs₃ he => ?_)
    exact hE h₃ tk1 e (fun c o q1 q2 q3 x => hs₃ _ _ q3 (hs₂.extBut _ _ q2 (hs₁.extBut _ _ q1 x))) he
  · have e1 : i = n1 := by omega
    refine wpAny_bind (D1.done ⟨h₁, g, d, tk0, os⟩ _ _ (by rw [← e1]; exact D1.over st1 hs₁ S.zf1) fun h₃ e hs₃ he => ?_)
    exact hE h₃ tk0 e (fun c o q1 q2 q3 x => hs₃ _ _ q2 (hs₁.extBut _ _ q1 x)) he
theorem zd_next {Q : Option Value → Shared → Prop} (S : ZipSep2 z TI TO i1 i2 fp1 fp2) (D1 : Draws prog w A.in1 i1 fp1 n1 P1 St1) (D2 : Draws prog w A.in1 i2 fp2 n2 P2 St2)
    (hz : IsZipHeld s.heap z TI TO T f) (hT : s.heap.get? T = some oT) (hTI : IsTupOf2 s.heap TI (.ref i1) (.ref i2)) (st1 : St1 i s.heap) (st2 : St2 i s.heap) (l1 : i < n1) (l2 : i < n2)
    (hQ : ∀ x1 x2 h' tk, P1 i x1 → P2 i x2 → IsZipHeld h' z TI TO T true → St1 (i + 1) h' → St2 (i + 1) h' → IsTupOf2 h' s.heap.objs.size x1 x2 → (∀ c o, c ≠ z → c ≠ i1 → c ≠ i2 → s.heap.get? c = some o → h'.get? c = some o) → Q (some (.ref s.heap.objs.size)) { s with heap := h', toks := tk }) :
    wpAny (model prog w) A (pyNext (.ref z)) Q E s := by
  have ty : s.TypeIs (.ref z) "zip" := ⟨_, hz, rfl⟩
  unfold pyNext
  refine wpAny_bind (wpAny_attempt (wpAny_callSpecial?_slot (name := Str.ofString "__next__") ty F.slot_zip_next (wpAny_call_entry F.slot_zip_next ty F.entry_zip_next ?_ (F.args_zip_next_1 _))))
  exact zd_item S D1 D2 hz hT hTI st1 st2 l1 l2 fun x1 x2 h' tk a b c d e f g => wpAny_pure (hQ x1 x2 h' tk a b c d e f g)
theorem zd_stop {Q : Option Value → Shared → Prop} (S : ZipSep2 z TI TO i1 i2 fp1 fp2) (D1 : Draws prog w A.in1 i1 fp1 n1 P1 St1) (D2 : Draws prog w A.in1 i2 fp2 n2 P2 St2)
    (hz : IsZipHeld s.heap z TI TO T f) (hT : s.heap.get? T = some oT) (hTI : IsTupOf2 s.heap TI (.ref i1) (.ref i2)) (st1 : St1 i s.heap) (st2 : St2 i s.heap) (l1 : i ≤ n1) (l2 : i ≤ n2) (he : i = n1 ∨ i = n2)
    (hQ : ∀ h' tk, (∀ c o, c ≠ z → c ≠ i1 → c ≠ i2 → s.heap.get? c = some o → h'.get? c = some o) → Q none { s with heap := h', toks := tk }) : wpAny (model prog w) A (pyNext (.ref z)) Q E s := by
  have ty : s.TypeIs (.ref z) "zip" := ⟨_, hz, rfl⟩
  unfold pyNext
  refine wpAny_bind (wpAny_attempt (wpAny_callSpecial?_slot (name := Str.ofString "__next__") ty F.slot_zip_next (wpAny_call_entry F.slot_zip_next ty F.entry_zip_next ?_ (F.args_zip_next_1 _))))
  refine zd_end S D1 D2 hz hT hTI st1 st2 l1 l2 he fun h' tk e hk hs => ?_
  obtain ⟨o, ho, hc⟩ := hs
  exact wpAny_bind (wpAny_isInstance (T := "StopIteration") (b := true) ⟨o, ho, hc⟩ isSubtype_stop (wpAny_pure (hQ _ _ hk)))
end
section
variable {prog : Program} {w : World} {z TI TO i1 i2 : Addr} {fp1 fp2 : List Addr} {n1 n2 : Nat} {P1 P2 : Nat → Value → Prop} {St1 St2 : Nat → Heap → Prop}
def ZdOk (z TI TO i1 i2 : Addr) (St1 St2 : Nat → Heap → Prop) (h : Heap) : Prop := IsZip h z TI TO .none ∧ IsTupOf2 h TI (.ref i1) (.ref i2) ∧ (∃ a b, IsTupOf2 h TO a b) ∧ St1 0 h ∧ St2 0 h
def ZdSt (z TI TO i1 i2 d : Addr) (St1 St2 : Nat → Heap → Prop) (i : Nat) (h : Heap) : Prop := IsTupOf2 h TI (.ref i1) (.ref i2) ∧ St1 i h ∧ St2 i h ∧
  ((IsZip h z TI TO .none ∧ ∃ a b, IsTupOf2 h TO a b) ∨ ∃ T f oT, IsZipHeld h z TI TO T f ∧ h.get? T = some oT ∧ T ≠ z ∧ T ≠ i1 ∧ T ≠ i2 ∧ T ≠ d)
theorem zd_arg (S : ZipSep2 z TI TO i1 i2 fp1 fp2) (D1 : ∀ A : Around, A.handled = none → Draws prog w A i1 fp1 n1 P1 St1) (D2 : ∀ A : Around, A.handled = none → Draws prog w A i2 fp2 n2 P2 St2)
    (v1 : ∀ h, St1 0 h → ∀ b ∈ fp1, ∃ o, h.get? b = some o) (v2 : ∀ h, St2 0 h → ∀ b ∈ fp2, ∃ o, h.get? b = some o) (A0 : Around) (hA0 : A0.handled = none) :
    PySem.PairArg prog w "zip" z (z :: TI :: TO :: (fp1 ++ fp2)) [z, TO, i1, i2] (min n1 n2) (fun i k v => P1 i k ∧ P2 i v) (ZdOk z TI TO i1 i2 St1 St2) where
  type := fun s ok => ⟨_, ok.1, rfl⟩
  notDict := by decide
  keep := fun h h' ok hk => by
    obtain ⟨a, b, ⟨x, y, c⟩, d, e⟩ := ok
    exact ⟨hk _ _ a, hk _ _ b, ⟨x, y, hk _ _ c⟩, (D1 A0 hA0).frame _ _ _ d fun b _ o e => hk b o e, (D2 A0 hA0).frame _ _ _ e fun b _ o e => hk b o e⟩
  there := fun h ok b hb => by
    obtain ⟨a, c, ⟨x, y, t⟩, d, e⟩ := ok
    simp only [List.mem_cons, List.mem_append] at hb
    rcases hb with rfl | rfl | rfl | hb | hb
    · exact ⟨_, a⟩
    · exact ⟨_, c⟩
    · exact ⟨_, t⟩
    · exact v1 h d b hb
    · exact v2 h e b hb
  sub := fun b hb => by
    simp only [List.mem_cons, List.not_mem_nil, or_false] at hb
    simp only [List.mem_cons, List.mem_append]
    rcases hb with rfl | rfl | rfl | rfl
    · exact .inl rfl
    · exact .inr (.inr (.inl rfl))
    · exact .inr (.inr (.inr (.inl S.mem1)))
    · exact .inr (.inr (.inr (.inr S.mem2)))
  noKeys := fun A s Q E hA ok h => getAttrOr_miss_zip ok.1 rfl rfl rfl zip_no_keys (by decide +kernel) hA h
  iter := fun A s d Q E hA ok hd hdf h => by
    simp only [List.mem_cons, List.mem_append, not_or] at hdf
    obtain ⟨dz, dTI, dTO, d1, d2⟩ := hdf
    obtain ⟨hz, hTI, hTO, t1, t2⟩ := ok
    refine wpAny_pyIter_zip hz (h z [z, TO, i1, i2] (ZdSt z TI TO i1 i2 d St1 St2) s.heap s.toks ?_ ⟨hTI, t1, t2, .inl ⟨hz, hTO⟩⟩ (fun _ _ e => e) fun b hb => .inl hb)
    have ni1 : d ≠ i1 := fun e => d1 (e ▸ S.mem1)
    have ni2 : d ≠ i2 := fun e => d2 (e ▸ S.mem2)
    constructor
    · intro hm
      simp only [List.mem_cons, List.not_mem_nil, or_false] at hm
      rcases hm with e | e | e | e
      · exact dz e
      · exact dTO e
      · exact ni1 e
      · exact ni2 e
    · rintro i h₁ h₂ ⟨q, u1, u2, r⟩ hk
      refine ⟨hk _ _ (Ne.symm dTI) q, (D1 A hA).frame _ _ _ u1 fun b hb o e => hk b o (fun x => d1 (x ▸ hb)) e, (D2 A hA).frame _ _ _ u2 fun b hb o e => hk b o (fun x => d2 (x ▸ hb)) e, ?_⟩
      rcases r with ⟨r, a, b, r2⟩ | ⟨T, f, oT, r, r2, r3, r4, r5, r6⟩
      · exact .inl ⟨hk _ _ (Ne.symm dz) r, a, b, hk _ _ (Ne.symm dTO) r2⟩
      · exact .inr ⟨T, f, oT, hk _ _ (Ne.symm dz) r, hk _ _ r6 r2, r3, r4, r5, r6⟩
    · rintro i s₁ Q₁ E₁ hi ⟨q, u1, u2, r⟩ hds hQ
      have l1 : i < n1 := Nat.lt_of_lt_of_le hi (Nat.min_le_left _ _)
      have l2 : i < n2 := Nat.lt_of_lt_of_le hi (Nat.min_le_right _ _)
      have gt : ∀ {c o}, s₁.heap.get? c = some o → s₁.heap.objs.size ≠ c := fun e => Nat.ne_of_gt (Heap.lt_size e)
      obtain ⟨o1, e1⟩ := (D1 A hA).live _ _ u1
      obtain ⟨o2, e2⟩ := (D2 A hA).live _ _ u2
      rcases r with ⟨r, a, b, r2⟩ | ⟨T, f, oT, r, r2, r3, r4, r5, r6⟩
      · refine wpAny_pyNext_zipD2_item S (D1 A.in1 hA) (D2 A.in1 hA) r q r2 u1 u2 l1 l2 fun x1 x2 h' tk p1 p2 w1 w2 w3 w4 w5 w6 hk => ?_
        exact hQ s₁.heap.objs.size x1 x2 h' tk ⟨p1, p2⟩ (.inl ⟨_, w5, rfl, _, rfl⟩) ⟨hk _ _ S.TIz S.TITO S.TIi1 S.TIi2 q, w3, w4, .inr ⟨_, false, _, w1, w5, gt r, gt e1, gt e2, Nat.ne_of_gt hds⟩⟩
          fun c o hc e => hk c o (fun x => hc (by simp [x])) (fun x => hc (by simp [x])) (fun x => hc (by simp [x])) (fun x => hc (by simp [x])) e
      · refine zd_next S (D1 A.in1 hA) (D2 A.in1 hA) r r2 q u1 u2 l1 l2 fun x1 x2 h' tk p1 p2 w1 w3 w4 w5 hk => ?_
        exact hQ s₁.heap.objs.size x1 x2 h' tk ⟨p1, p2⟩ (.inl ⟨_, w5, rfl, _, rfl⟩) ⟨hk _ _ S.TIz S.TIi1 S.TIi2 q, w3, w4, .inr ⟨T, true, oT, w1, hk _ _ r3 r4 r5 r2, r3, r4, r5, r6⟩⟩
          fun c o hc e => hk c o (fun x => hc (by simp [x])) (fun x => hc (by simp [x])) (fun x => hc (by simp [x])) e
    · rintro s₁ Q₁ E₁ ⟨q, u1, u2, r⟩ hQ
      have he : min n1 n2 = n1 ∨ min n1 n2 = n2 := by omega
      rcases r with ⟨r, a, b, r2⟩ | ⟨T, f, oT, r, r2, r3, r4, r5, r6⟩
      · exact wpAny_pyNext_zipD2_end S (D1 A.in1 hA) (D2 A.in1 hA) r q r2 u1 u2 (Nat.min_le_left _ _) (Nat.min_le_right _ _) he fun h' tk hk => hQ h' tk fun c o hc e => hk c o (fun x => hc (by simp [x])) (fun x => hc (by simp [x])) (fun x => hc (by simp [x])) (fun x => hc (by simp [x])) e
      · exact zd_stop S (D1 A.in1 hA) (D2 A.in1 hA) r r2 q u1 u2 (Nat.min_le_left _ _) (Nat.min_le_right _ _) he fun h' tk hk => hQ h' tk fun c o hc e => hk c o (fun x => hc (by simp [x])) (fun x => hc (by simp [x])) (fun x => hc (by simp [x])) e
end
section
variable {X : Cx}
theorem zip_keysS {α β : Type} : ∀ (l : List α) (m : List β), ((l.zip m).map (·.1)).Sublist l
  | [], _ => by simp
  | _ :: _, [] => by simp
  | a :: l, b :: m => by
    simp only [List.zip_cons_cons, List.map_cons]
    exact (zip_keysS l m).cons₂ a
theorem w_dictZipS {a b : Expr} {p p2 q pos : Pos} {σ : St} {H : Hp} {Q : VK} (hc : X.calm = true) (hg : Gl X "dict") (hm : X.mg "dict" = none) (hg2 : Gl X "zip") (hm2 : X.mg "zip" = none)
    (na : starEach [a, b] X.env = (false, eval a X.env) :: starEach [b] X.env) (nb : starEach [b] X.env = (false, eval b X.env) :: starEach [] X.env)
    (h : wE X a σ H fun x H1 => wE X b σ H1 fun y H2 => ∃ (t : Str) (m : Addr) (vs : List V), x = V.str t ∧ y = V.ref m ∧ SqL X.K H2 m vs ∧ (sgnS t).Nodup ∧ (sgnS t).length ≤ 60 ∧ ∀ p, H2 p = none → Q (.ref p) (upd H2 p (.dK (((sgnS t).map Sum.inr).zip vs)))) :
    wE X (.Call (.Name "dict" p) [.Call (.Name "zip" p2) [a, b] [] q] [] pos) σ H Q := fun pins s I => by
  refine Call_ (ld_blt I hg hm (by decide +kernel : bootBuiltins "dict" = some (.type "dict")) ?_)
  refine PyProof.Rows.callWith_type1 (PyProof.Rows.args_cons ?_ rfl) rfl rfl
  refine Call_ (ld_blt I hg2 hm2 (by decide +kernel : bootBuiltins "zip" = some (.type "zip")) ?_)
  refine PyProof.Rows.callWith_type1 (PyProof.Rows.args_cons (thn (h pins s I) fun v s1 ⟨x, H1, I1, r1, q1⟩ => PyProof.Rows.args_cons (thn (q1 pins s1 I1) fun u s2 ⟨y, H2, I2, r2, q2⟩ => PyProof.Rows.args_nil ?_) nb) na) na (by rw [nb]; rfl)
  obtain ⟨t, m, vs, rfl, rfl, hv, nd, h60, q2⟩ := q2
  obtain ⟨tk0, rfl⟩ := r1
  cases r2
  obtain ⟨it2, rv2, pl2, hz2⟩ := I2.list hv
  have l2 : vs.length = it2.length := rv2.length
  have lt2 : @LT.lt Nat _ m s2.heap.objs.size := by obtain ⟨o, e, _⟩ := pl2.isList; exact Heap.lt_size e
  have hsg : (sgnS t).length = t.cps.size := by simp [sgnS]
  refine zip_begins2 (begins_text t tk0) (begins_list m it2.toArray) trivial pl2.isList fun g hZ hTI hTO hi1 hi2 hsz hk => PyProof.Rows.args_nil ?_
  have J : Inv X pins σ H2 { s2 with heap := g } := I2.kept (t' := s2.toks) hk
  have sep : ZipSep2 (s2.heap.objs.size + 4) (s2.heap.objs.size + 2) (s2.heap.objs.size + 3) s2.heap.objs.size (s2.heap.objs.size + 1) (s2.heap.objs.size :: []) ((s2.heap.objs.size + 1) :: [m]) := zip_sep2 (fun _ h => nomatch h) (fun b hb => by rw [List.mem_singleton] at hb; subst hb; exact lt2)
  let kvs : List (Key × Value) := ((sgnS t).map (Sum.inr : Str → Key)).zip it2
  have nk : (kvs.map (·.1)).Nodup := List.Nodup.sublist (zip_keysS _ _) (List.Pairwise.map _ (fun x y hn e => hn (by injection e)) nd)
  have kl : kvs.length = min t.cps.size it2.toArray.size := by simp [kvs, hsg]
  refine PySem.call_dict_pairs (s := { s2 with heap := g }) (knd := mixKind X.prog X.w) (kvs := kvs) (zd_arg (fp1 := [s2.heap.objs.size]) (fp2 := [s2.heap.objs.size + 1, m]) (n1 := t.cps.size) (n2 := it2.toArray.size) (P1 := fun i v => ∃ c u, t.cps[i]? = some c ∧ v = .str ⟨#[c]⟩ u) (P2 := fun i v => it2.toArray[i]? = some v)
    (St1 := fun i h => h.IsStrIter s2.heap.objs.size (strIterType t) t tk0 i) (St2 := fun i h => h.IsListIter (s2.heap.objs.size + 1) m i ∧ h.IsList m it2.toArray) sep (fun A hA => Draws.text hA _ t tk0) (fun A hA => Draws.list hA _ m (fun e => by have e : @Eq Nat _ _ := e; omega) it2.toArray) (fun h ok b hb => ?_) (fun h ok b hb => ?_) X.A (I.ok.hd hc)) (J.ok.hd hc) ⟨hZ, hTI, ⟨_, _, hTO⟩, ⟨_, hi1, rfl, rfl⟩, ⟨_, hi2, rfl, rfl⟩, pl2.isList.at fun o e => hk _ o e⟩ ⟨?_, fun i key v hr => ?_⟩ ?_ fun g2 tk hd hk2 => ?_
  · rw [List.mem_singleton] at hb
    subst hb
    obtain ⟨o, e, _⟩ := ok
    exact ⟨o, e⟩
  · obtain ⟨⟨o, e, _⟩, ⟨o2, e2, _⟩⟩ := ok
    rcases List.mem_cons.mp hb with rfl | hb
    · exact ⟨o, e⟩
    · rw [List.mem_singleton] at hb
      subst hb
      exact ⟨o2, e2⟩
  · exact kl
  · obtain ⟨⟨c, u, h1, rfl⟩, h2⟩ := hr
    refine ⟨.inr ⟨#[c]⟩, ?_, kV_is (k := .inr ⟨#[c]⟩) ⟨u, rfl⟩⟩
    show (((sgnS t).map (Sum.inr : Str → Key)).zip it2)[i]? = _
    rw [List.getElem?_zip_eq_some]
    refine ⟨?_, by simpa using h2⟩
    rw [List.getElem?_map]
    unfold sgnS
    rw [List.getElem?_map, Array.getElem?_toList, h1]
    rfl
  · have : t.cps.size ≤ 60 := by rw [← hsg]; exact h60
    rw [sizeLine_eq]; omega
  rw [merged_nil_of_nodup kvs nk] at hd
  have hsz' : g.objs.size = s2.heap.objs.size + 5 := hsz
  have kept : ∀ b o, s2.heap.get? b = some o → g2.get? b = some o := fun b o e => by
    have hb : @LT.lt Nat _ b s2.heap.objs.size := Heap.lt_size e
    refine hk2 b o (fun hm => ?_) (hk b o e)
    simp only [List.mem_cons, List.not_mem_nil, or_false] at hm
    rcases hm with z | z | z | z <;> (have z : @Eq Nat _ _ := z; omega)
  have hn : H2 g.objs.size = none := I2.hok.fresh (by omega)
  have hbig : (g.objs.size == sysModules) = false := by
    have big : @LT.lt Nat _ sysModules s2.heap.objs.size := I2.big
    simp only [beq_eq_false_iff_ne]
    intro z
    have z : @Eq Nat _ _ := z
    omega
  refine ⟨.ref g.objs.size, upd H2 g.objs.size (.dK (((sgnS t).map Sum.inr).zip vs)), I2.laid (t' := tk) kept (by omega) ⟨?_, hbig, kvs, kv_zip rv2, hd⟩, rfl, q2 _ hn⟩
  rw [List.length_zip, List.length_map, sizeLine_eq]; omega
end
end L2.Ms

namespace L2.Ms
open PySem PySem.Spec PyProof.Rows Mv

/-! ### what holds of the context -/
structure Good (X : Cx) (z : Cn) (W : WX) (L : Nat) : Prop where
  calm : X.calm = true
  K : X.K = z.K
  nd : X.N.Nodup
  room : Room L X.A
  po : PassesOwn (model X.prog X.w) X.A X.env X.xe
  tk : Takes X W
theorem Good.u {X : Cx} {z : Cn} {W : WX} {L : Nat} (g : Good X z W L) : X.A.units + 65 < cLine := by have := g.room.un; omega
theorem Good.u4 {X : Cx} {z : Cn} {W : WX} {L : Nat} (g : Good X z W L) : X.A.units + 64 < cLine := by have := g.room.un; omega

section
variable {z : Fx} {W : WX} {σ : St} {H F G H1 F1 G1 : Hp} {lv n1 : Nat} {Q : VK}
theorem PostE.step (s : Step z H F G H1 F1 G1 n1) {o : Out D} (h : PostE z W σ H F G lv o Q) : PostE z W σ H1 F1 G1 lv o Q := by
  cases o with
  | ok d n' => exact fun v H' F' G' st r => h v H' F' G' (s.trans st) r
  | ex c n' => exact fun H' F' G' st => h H' F' G' (s.trans st)
  | bad => exact h
def PostT (z : Fx) (W : WX) (σ : St) (H F G : Hp) (o : Out D) (Q : Bool → Hp → Prop) : Prop := match o with
  | .ok (.bl b) n' => ∀ H' F' G', Step z H F G H' F' G' n' → Q b H'
  | .ok _ _ => False
  | .ex c n' => ∀ H' F' G', Step z H F G H' F' G' n' → W (.ref (He.ga z.K c)) none σ H'
  | .bad => False
theorem PostT.step {QT : Bool → Hp → Prop} (s : Step z H F G H1 F1 G1 n1) {o : Out D} (h : PostT z W σ H F G o QT) : PostT z W σ H1 F1 G1 o QT := by
  cases o with
  | ok d n' =>
    cases d with
    | bl b => exact fun H' F' G' st => h H' F' G' (s.trans st)
    | _ => exact h
  | ex c n' => exact fun H' F' G' st => h H' F' G' (s.trans st)
  | bad => exact h
def PostA (z : Fx) (W : WX) (σ : St) (H F G : Hp) (two : Bool) (o : Out (List D)) (Q : List V → Hp → Prop) : Prop := match o with
  | .ok ds n' => ∀ vs H' F' G', Step z H F G H' F' G' n' → RepL z.toCn G' vs ds → (two = true → RepL z.toCn F' vs ds) → Q vs H'
  | .ex c n' => ∀ H' F' G', Step z H F G H' F' G' n' → W (.ref (He.ga z.K c)) none σ H'
  | .bad => False
end

section
variable (X : Cx) (z : Fx) (W : WX) (S : Sub) (T : Tab)
def SE (me : ME) (e : Expr) : Prop := ∀ {σ : St} {H F G : Hp} {env : Ev} {n : Nat} {Q : VK}, ER z σ H F G env n → PostE z W σ H F G (lev z.own me) (evE S T me env n) Q → wE X e σ H Q
def ST (me : ME) (e : Expr) : Prop := ∀ {σ : St} {H F G : Hp} {env : Ev} {n : Nat} {Q : Bool → Hp → Prop}, ER z σ H F G env n → PostT z W σ H F G (evE S T me env n) Q → wT X e σ H Q
def SA (mes : MEs) (es : List Expr) : Prop := ∀ {σ : St} {H F G : Hp} {env : Ev} {n : Nat} {Q : List V → Hp → Prop}, ER z σ H F G env n → PostA z W σ H F G (levA z.own mes) (evA S T mes env n) Q → wA X es σ H Q
end
section
variable {X : Cx} {z : Fx} {W : WX} {S : Sub} {T : Tab} {σ : St} {H F G : Hp} {env : Ev} {n : Nat}
theorem SE.use {a : ME} {e : Expr} (ha : SE X z W S T a e) (er : ER z σ H F G env n) {f : D → Nat → Out D} {lv : Nat} {Q Q1 : VK} (h : PostE z W σ H F G lv ((evE S T a env n).bind f) Q)
    (k : ∀ d n1 v H1 F1 G1, evE S T a env n = .ok d n1 → Step z H F G H1 F1 G1 n1 → ER z σ H1 F1 G1 env n1 → RepLv z.toCn (lev z.own a) F1 G1 v d → PostE z W σ H1 F1 G1 lv (f d n1) Q → Q1 v H1) : wE X e σ H Q1 := by
  refine ha er ?_
  cases h1 : evE S T a env n with
  | ok d n1 =>
    rw [h1] at h
    exact fun v H1 F1 G1 st r => k d n1 v H1 F1 G1 h1 st (er.step st) r (PostE.step st h)
  | ex c n1 =>
    rw [h1] at h
    exact h
  | bad =>
    rw [h1] at h
    exact h
/-- .. within a test -/
theorem SE.useT {a : ME} {e : Expr} (ha : SE X z W S T a e) (er : ER z σ H F G env n) {f : D → Nat → Out D} {Q : Bool → Hp → Prop} {Q1 : VK} (h : PostT z W σ H F G ((evE S T a env n).bind f) Q)
    (k : ∀ d n1 v H1 F1 G1, evE S T a env n = .ok d n1 → Step z H F G H1 F1 G1 n1 → ER z σ H1 F1 G1 env n1 → RepLv z.toCn (lev z.own a) F1 G1 v d → PostT z W σ H1 F1 G1 (f d n1) Q → Q1 v H1) : wE X e σ H Q1 := by
  refine ha er ?_
  cases h1 : evE S T a env n with
  | ok d n1 =>
    rw [h1] at h
    exact fun v H1 F1 G1 st r => k d n1 v H1 F1 G1 h1 st (er.step st) r (PostT.step st h)
  | ex c n1 =>
    rw [h1] at h
    exact h
  | bad =>
    rw [h1] at h
    exact h
theorem ST.use {a : ME} {e : Expr} (ha : ST X z W S T a e) (er : ER z σ H F G env n) {f : D → Nat → Out D} {lv : Nat} {Q : VK} {Q1 : Bool → Hp → Prop} (h : PostE z W σ H F G lv ((evE S T a env n).bind f) Q) (hb : ∀ d n, (∀ b, d ≠ .bl b) → f d n = .bad)
    (k : ∀ b n1 H1 F1 G1, evE S T a env n = .ok (.bl b) n1 → Step z H F G H1 F1 G1 n1 → ER z σ H1 F1 G1 env n1 → PostE z W σ H1 F1 G1 lv (f (.bl b) n1) Q → Q1 b H1) : wT X e σ H Q1 := by
  refine ha er ?_
  cases h1 : evE S T a env n with
  | ok d n1 =>
    rw [h1] at h
    cases d with
    | bl b => exact fun H1 F1 G1 st => k b n1 H1 F1 G1 h1 st (er.step st) (PostE.step st h)
    | _ => rw [Out.bind_ok, hb _ _ (by intro b q; cases q)] at h; exact h
  | ex c n1 =>
    rw [h1] at h
    exact h
  | bad =>
    rw [h1] at h
    exact h
theorem ST.useT {a : ME} {e : Expr} (ha : ST X z W S T a e) (er : ER z σ H F G env n) {f : D → Nat → Out D} {Q Q1 : Bool → Hp → Prop} (h : PostT z W σ H F G ((evE S T a env n).bind f) Q) (hb : ∀ d n, (∀ b, d ≠ .bl b) → f d n = .bad)
    (k : ∀ b n1 H1 F1 G1, evE S T a env n = .ok (.bl b) n1 → Step z H F G H1 F1 G1 n1 → ER z σ H1 F1 G1 env n1 → PostT z W σ H1 F1 G1 (f (.bl b) n1) Q → Q1 b H1) : wT X e σ H Q1 := by
  refine ha er ?_
  cases h1 : evE S T a env n with
  | ok d n1 =>
    rw [h1] at h
    cases d with
    | bl b => exact fun H1 F1 G1 st => k b n1 H1 F1 G1 h1 st (er.step st) (PostT.step st h)
    | _ => rw [Out.bind_ok, hb _ _ (by intro b q; cases q)] at h; exact h
  | ex c n1 =>
    rw [h1] at h
    exact h
  | bad =>
    rw [h1] at h
    exact h
theorem PostE.lift {lv : Nat} {o : Option D} {Q : VK} (h : PostE z W σ H F G lv (Out.lift o n) Q) : ∃ r, o = some r ∧ ∀ v H' F' G', Step z H F G H' F' G' n → RepLv z.toCn lv F' G' v r → Q v H' := by
  cases o with
  | none => exact h.elim
  | some r => exact ⟨r, rfl, h⟩

/-! ### constants, names -/
theorem se_bad {e : Expr} : SE X z W S T .bad e := fun _ h => h.elim
theorem st_bad {e : Expr} : ST X z W S T .bad e := fun _ h => h.elim
theorem se_c {e : Expr} {d : D} {v : V} (r : ∀ F, Rep z.toCn F v d) (h : PE X e (tC v)) : SE X z W S T (.c d) e := fun er p => h.w (p v _ _ _ er.refl (Rep.lv er.fg _ (r _)))
theorem se_v {e : Expr} {i : Nat} (h : PE X e (tVar i)) : SE X z W S T (.v i) e := fun {σ H F G env n Q} er p => by
  refine h.w ?_
  simp only [evE] at p
  split at p
  · rename_i d hd
    match ho : z.own i with
    | 0 =>
      obtain ⟨v, e1, r⟩ := er.val i d hd ho
      exact ⟨v, e1, p v _ _ _ er.refl (Rep.lv er.fg _ r)⟩
    | 1 =>
      obtain ⟨q, e1, _, w⟩ := er.ow i d hd ho
      refine ⟨_, e1, p _ _ _ _ er.refl ?_⟩
      simp only [lev, ho]
      exact w.repI
    | m + 2 =>
      obtain ⟨q, vs, ds, rfl, e1, e2, _, r, _⟩ := er.ow2 i d hd (by omega)
      refine ⟨_, e1, p _ _ _ _ er.refl ?_⟩
      have e0 : lev z.own (.v i) = 0 := by simp only [lev, ho]; omega
      rw [e0]
      exact .lst e2 (r.repL er.fg)
  · exact p.elim

/-! ### two-place pieces -/
theorem se_p2 {p : P2} {a b : ME} {e1 e2 : Expr} {op : Operator} {pos : Pos} (hp : Pr2 X z p (binaryOp op)) (ha : SE X z W S T a e1) (hb : SE X z W S T b e2) : SE X z W S T (.p2 p a b) (.BinOp e1 op e2 pos) := fun {σ H F G env n Q} er h => by
  refine (pe_op w2R (peW e1) (peW e2)).w (ha.use er h fun d n1 v H1 F1 G1 _ s1 er1 r1 h1 => hb.use er1 h1 fun d2 n2 v2 H2 F2 G2 _ s2 er2 r2 h2 => ?_)
  obtain ⟨r, hr, hq⟩ := h2.lift
  exact hp er2 (r1.mono s2.ff s2.gg) r2 hr hq
theorem se_cmp {p : P2} {a b : ME} {e1 e2 : Expr} {op : CmpOp} {pos : Pos} (hp : Pr2 X z p (compareOp op)) (hm : behindInMarks op e2 = false) (ha : SE X z W S T a e1) (hb : SE X z W S T b e2) : SE X z W S T (.p2 p a b) (.Compare e1 [op] [e2] pos) := fun {σ H F G env n Q} er h => by
  refine (pe_cmpR w2R (peW e1) (peW e2) hm).w (ha.use er h fun d n1 v H1 F1 G1 _ s1 er1 r1 h1 => hb.use er1 h1 fun d2 n2 v2 H2 F2 G2 _ s2 er2 r2 h2 => ?_)
  obtain ⟨r, hr, hq⟩ := h2.lift
  exact hp er2 (r1.mono s2.ff s2.gg) r2 hr hq
theorem se_idx {a b : ME} {e1 e2 : Expr} {pos : Pos} (hu : X.A.units + 64 < cLine) (hK : X.K = z.K) (hs : PlainIx e2) (ha : SE X z W S T a e1) (hb : SE X z W S T b e2) : SE X z W S T (.p2 .idx a b) (.Subscript e1 e2 pos) := fun {σ H F G env n Q} er h => by
  intro pins s I
  refine Subscript_ (binT (peW e1) (peW e2) I (R := fun x y H2 => wX X e1 e2 x y H2 Q) (ha.use er h fun d n1 v H1 F1 G1 _ s1 er1 r1 h1 => hb.use er1 h1 fun d2 n2 v2 H2 F2 G2 _ s2 er2 r2 h2 => ?_) fun v u s2 x y H2 I2 rx ry q => q pins s2 σ v u I2 rx ry (hs _ _))
  obtain ⟨r, hr, hq⟩ := h2.lift
  exact pr_idx hu hK er2 (r1.mono s2.ff s2.gg) r2 hr hq

/-! ### tests -/
theorem wT_val {e : Expr} {Q : Bool → Hp → Prop} (he : ∀ whole, isTrue e X.env whole = (do let v ← whole; standAt e.pos; holding [v] (truthy v))) (h : wE X e σ H fun x H1 => ∃ c, x = .bl c ∧ Q c H1) : wT X e σ H Q := (pt_val (peW e) he).w h
/-- a value that is a truth, as a test -/
theorem st_val {a : ME} {e : Expr} (he : ∀ whole, isTrue e X.env whole = (do let v ← whole; standAt e.pos; holding [v] (truthy v))) (ha : SE X z W S T a e) : ST X z W S T a e := fun {σ H F G env n Q} er h => by
  refine wT_val he (ha er ?_)
  cases h1 : evE S T a env n with
  | ok d n1 =>
    rw [h1] at h
    cases d with
    | bl b =>
      intro v H1 F1 G1 st r
      exact ⟨b, lvBl st.fg r, h H1 F1 G1 st⟩
    | _ => exact h.elim
  | ex c n1 => rw [h1] at h; exact h
  | bad => rw [h1] at h; exact h
theorem st_cmp {p : P2} {a b : ME} {e1 e2 : Expr} {op : CmpOp} {pos : Pos} (hp : Pr2 X z p (compareOp op)) (hm : behindInMarks op e2 = false) (ha : SE X z W S T a e1) (hb : SE X z W S T b e2) (hl : lv2 p = fun _ _ => 2) : ST X z W S T (.p2 p a b) (.Compare e1 [op] [e2] pos) := fun {σ H F G env n Q} er h => by
  refine (pt_cmpR w2R (peW e1) (peW e2) hm).w (ha.useT er h fun d n1 v H1 F1 G1 _ s1 er1 r1 h1 => hb.useT er1 h1 fun d2 n2 v2 H2 F2 G2 _ s2 er2 r2 h2 => ?_)
  cases hr : sem2 p n2 d d2 with
  | none => rw [hr] at h2; exact h2.elim
  | some r =>
    rw [hr] at h2
    refine hp er2 (r1.mono s2.ff s2.gg) r2 hr fun v H' F' G' st rr => ?_
    cases r with
    | bl b => exact ⟨b, lvBl st.fg rr, h2 H' F' G' st⟩
    | _ => exact h2.elim
theorem st_not {a : ME} {e : Expr} {pos : Pos} (ha : ST X z W S T a e) : ST X z W S T (.p1 .not_ a) (.UnaryOp .Not e pos) := fun {σ H F G env n Q} er h => by
  refine (pt_not (ptW e)).w (ha.useT er h (fun d n hd => by cases d <;> first | rfl | exact absurd rfl (hd _)) fun b n1 H1 F1 G1 _ s1 er1 h1 => ?_)
  exact h1 H1 F1 G1 er1.refl
theorem st_and1 {a : ME} {e : Expr} {pos : Pos} (ha : ST X z W S T a e) : ∀ {σ : St} {H F G : Hp} {env : Ev} {n : Nat} {Q : Bool → Hp → Prop}, ER z σ H F G env n → PostT z W σ H F G (evE S T a env n) Q → ∀ wh pins s, Inv X pins σ H s → wpAny (model X.prog X.w) X.A (isTrue (.BoolOp .And [e] pos) X.env wh) (TP X pins σ Q) X.xe s := fun er h wh pins s I =>
  (pw_and1 (ptW e)).run wh pins s _ _ _ I (ha er h)
theorem st_and2 {a b : ME} {e1 e2 : Expr} {pos : Pos} (ha : ST X z W S T a e1) (hb : ST X z W S T b e2) : ST X z W S T (.and a b) (.BoolOp .And [e1, e2] pos) := fun {σ H F G env n Q} er h => by
  refine (PW.pt (pw_and (ptW e1) (pw_and1 (ptW e2)))).w (ha.useT er h (fun d n hd => by cases d <;> first | rfl | exact absurd rfl (hd _)) fun c n1 H1 F1 G1 _ s1 er1 h1 => ?_)
  cases c with
  | true => rw [if_pos rfl]; exact hb er1 h1
  | false => rw [if_neg Bool.false_ne_true]; exact h1 H1 F1 G1 er1.refl
theorem st_or2 {a b : ME} {e1 e2 : Expr} {pos : Pos} (ha : ST X z W S T a e1) (hb : ST X z W S T b e2) : ST X z W S T (.or a b) (.BoolOp .Or [e1, e2] pos) := fun {σ H F G env n Q} er h => by
  refine (PW.pt (pw_or (ptW e1) (pw_or1 (ptW e2)))).w (ha.useT er h (fun d n hd => by cases d <;> first | rfl | exact absurd rfl (hd _)) fun c n1 H1 F1 G1 _ s1 er1 h1 => ?_)
  cases c with
  | false => rw [if_neg Bool.false_ne_true]; exact hb er1 h1
  | true => rw [if_pos rfl]; exact h1 H1 F1 G1 er1.refl
theorem st_and3 {a b c : ME} {e1 e2 e3 : Expr} {pos : Pos} (ha : ST X z W S T a e1) (hb : ST X z W S T b e2) (hc : ST X z W S T c e3) : ST X z W S T (.and a (.and b c)) (.BoolOp .And [e1, e2, e3] pos) := fun {σ H F G env n Q} er h => by
  refine (PW.pt (pw_and (ptW e1) (pw_and (ptW e2) (pw_and1 (ptW e3))))).w (ha.useT er h (fun d n hd => by cases d <;> first | rfl | exact absurd rfl (hd _)) fun c n1 H1 F1 G1 _ s1 er1 h1 => ?_)
  cases c with
  | true =>
    rw [if_pos rfl]
    refine hb.useT er1 h1 (fun d n hd => by cases d <;> first | rfl | exact absurd rfl (hd _)) fun c n2 H2 F2 G2 _ s2 er2 h2 => ?_
    cases c with
    | true => rw [if_pos rfl]; exact hc er2 h2
    | false => rw [if_neg Bool.false_ne_true]; exact h2 H2 F2 G2 er2.refl
  | false => rw [if_neg Bool.false_ne_true]; exact h1 H1 F1 G1 er1.refl
theorem st_or3 {a b c : ME} {e1 e2 e3 : Expr} {pos : Pos} (ha : ST X z W S T a e1) (hb : ST X z W S T b e2) (hc : ST X z W S T c e3) : ST X z W S T (.or a (.or b c)) (.BoolOp .Or [e1, e2, e3] pos) := fun {σ H F G env n Q} er h => by
  refine (PW.pt (pw_or (ptW e1) (pw_or (ptW e2) (pw_or1 (ptW e3))))).w (ha.useT er h (fun d n hd => by cases d <;> first | rfl | exact absurd rfl (hd _)) fun c n1 H1 F1 G1 _ s1 er1 h1 => ?_)
  cases c with
  | false =>
    rw [if_neg Bool.false_ne_true]
    refine hb.useT er1 h1 (fun d n hd => by cases d <;> first | rfl | exact absurd rfl (hd _)) fun c n2 H2 F2 G2 _ s2 er2 h2 => ?_
    cases c with
    | false => rw [if_neg Bool.false_ne_true]; exact hc er2 h2
    | true => rw [if_pos rfl]; exact h2 H2 F2 G2 er2.refl
  | true => rw [if_pos rfl]; exact h1 H1 F1 G1 er1.refl
theorem st_and4 {a b c d : ME} {e1 e2 e3 e4 : Expr} {pos : Pos} (ha : ST X z W S T a e1) (hb : ST X z W S T b e2) (hc : ST X z W S T c e3) (hd : ST X z W S T d e4) : ST X z W S T (.and a (.and b (.and c d))) (.BoolOp .And [e1, e2, e3, e4] pos) := fun {σ H F G env n Q} er h => by
  refine (PW.pt (pw_and (ptW e1) (pw_and (ptW e2) (pw_and (ptW e3) (pw_and1 (ptW e4)))))).w (ha.useT er h (fun d n hd => by cases d <;> first | rfl | exact absurd rfl (hd _)) fun c n1 H1 F1 G1 _ s1 er1 h1 => ?_)
  cases c with
  | true =>
    rw [if_pos rfl]
    refine hb.useT er1 h1 (fun d n hd => by cases d <;> first | rfl | exact absurd rfl (hd _)) fun c n2 H2 F2 G2 _ s2 er2 h2 => ?_
    cases c with
    | true =>
      rw [if_pos rfl]
      refine hc.useT er2 h2 (fun d n hd => by cases d <;> first | rfl | exact absurd rfl (hd _)) fun c n3 H3 F3 G3 _ s3 er3 h3 => ?_
      cases c with
      | true => rw [if_pos rfl]; exact hd er3 h3
      | false => rw [if_neg Bool.false_ne_true]; exact h3 H3 F3 G3 er3.refl
    | false => rw [if_neg Bool.false_ne_true]; exact h2 H2 F2 G2 er2.refl
  | false => rw [if_neg Bool.false_ne_true]; exact h1 H1 F1 G1 er1.refl
theorem st_or4 {a b c d : ME} {e1 e2 e3 e4 : Expr} {pos : Pos} (ha : ST X z W S T a e1) (hb : ST X z W S T b e2) (hc : ST X z W S T c e3) (hd : ST X z W S T d e4) : ST X z W S T (.or a (.or b (.or c d))) (.BoolOp .Or [e1, e2, e3, e4] pos) := fun {σ H F G env n Q} er h => by
  refine (PW.pt (pw_or (ptW e1) (pw_or (ptW e2) (pw_or (ptW e3) (pw_or1 (ptW e4)))))).w (ha.useT er h (fun d n hd => by cases d <;> first | rfl | exact absurd rfl (hd _)) fun c n1 H1 F1 G1 _ s1 er1 h1 => ?_)
  cases c with
  | false =>
    rw [if_neg Bool.false_ne_true]
    refine hb.useT er1 h1 (fun d n hd => by cases d <;> first | rfl | exact absurd rfl (hd _)) fun c n2 H2 F2 G2 _ s2 er2 h2 => ?_
    cases c with
    | false =>
      rw [if_neg Bool.false_ne_true]
      refine hc.useT er2 h2 (fun d n hd => by cases d <;> first | rfl | exact absurd rfl (hd _)) fun c n3 H3 F3 G3 _ s3 er3 h3 => ?_
      cases c with
      | false => rw [if_neg Bool.false_ne_true]; exact hd er3 h3
      | true => rw [if_pos rfl]; exact h3 H3 F3 G3 er3.refl
    | true => rw [if_pos rfl]; exact h2 H2 F2 G2 er2.refl
  | true => rw [if_pos rfl]; exact h1 H1 F1 G1 er1.refl
end
end L2.Ms

namespace L2.Ms
open PySem PySem.Spec PyProof.Rows Mv

def noStar : Expr → Bool
  | .Starred _ _ => false
  | _ => true
theorem starEach_cons {e : Expr} (es : List Expr) (env : Env) (h : noStar e = true) : starEach (e :: es) env = (false, eval e env) :: starEach es env := by
  cases e <;> first | rfl | (simp [noStar] at h)
theorem starEach_plain {pos : Pos} (env : Env) : ∀ {es : List Expr}, es.all noStar = true → (backTo pos (starEach es env)).any (·.1) = false
  | [], _ => rfl
  | e :: es, h => by
    simp only [List.all_cons, Bool.and_eq_true] at h
    rw [starEach_cons es env h.1]
    show (false || (backTo pos (starEach es env)).any (·.1)) = false
    rw [starEach_plain env h.2]; rfl
theorem starEach_few {pos : Pos} (env : Env) : ∀ {es : List Expr}, es.all noStar = true → (backTo pos (starEach es env)).all (fun x => !x.1) = true
  | [], _ => rfl
  | e :: es, h => by
    simp only [List.all_cons, Bool.and_eq_true] at h
    rw [starEach_cons es env h.1]
    show (true && (backTo pos (starEach es env)).all (fun x => !x.1)) = true
    rw [starEach_few env h.2]; rfl

section
variable {X : Cx} {z : Fx} {W : WX} {S : Sub} {T : Tab}
/-! ### truths as values -/
theorem se_not {a : ME} {e : Expr} {pos : Pos} (ha : SE X z W S T a e) : SE X z W S T (.p1 .not_ a) (.UnaryOp .Not e pos) := fun {σ H F G env n Q} er h => by
  refine (pe_not (peW e)).w (ha.use er h fun d n1 v H1 F1 G1 _ s1 er1 r1 h1 => ?_)
  cases d with
  | bl b => exact ⟨b, lvBl er1.fg r1, h1 _ _ _ _ er1.refl (Rep.lv er1.fg _ (.bl _))⟩
  | _ => exact h1.elim
theorem se_and2 {a b : ME} {e1 e2 : Expr} {pos : Pos} (ha : SE X z W S T a e1) (hb : SE X z W S T b e2) : SE X z W S T (.and a b) (.BoolOp .And [e1, e2] pos) := fun {σ H F G env n Q} er h => by
  refine (pe_and (peW e1) (pe_one (peW e2))).w (ha.use er h fun d n1 v H1 F1 G1 _ s1 er1 r1 h1 => ?_)
  cases d with
  | bl c =>
    refine ⟨c, lvBl er1.fg r1, ?_⟩
    cases c with
    | true => rw [if_pos rfl]; exact hb er1 h1
    | false => rw [if_neg Bool.false_ne_true]; exact h1 _ _ _ _ er1.refl (Rep.lv er1.fg _ (.bl _))
  | _ => exact h1.elim
theorem se_or2 {a b : ME} {e1 e2 : Expr} {pos : Pos} (ha : SE X z W S T a e1) (hb : SE X z W S T b e2) : SE X z W S T (.or a b) (.BoolOp .Or [e1, e2] pos) := fun {σ H F G env n Q} er h => by
  refine (pe_or (peW e1) (pe_one (peW e2))).w (ha.use er h fun d n1 v H1 F1 G1 _ s1 er1 r1 h1 => ?_)
  cases d with
  | bl c =>
    refine ⟨c, lvBl er1.fg r1, ?_⟩
    cases c with
    | false => rw [if_neg Bool.false_ne_true]; exact hb er1 h1
    | true => rw [if_pos rfl]; exact h1 _ _ _ _ er1.refl (Rep.lv er1.fg _ (.bl _))
  | _ => exact h1.elim
theorem se_and3 {a b c : ME} {e1 e2 e3 : Expr} {pos : Pos} (ha : SE X z W S T a e1) (hb : SE X z W S T b e2) (hc : SE X z W S T c e3) : SE X z W S T (.and a (.and b c)) (.BoolOp .And [e1, e2, e3] pos) := fun {σ H F G env n Q} er h => by
  refine (pe_and (peW e1) (peW _)).w (ha.use er h fun d n1 v H1 F1 G1 _ s1 er1 r1 h1 => ?_)
  cases d with
  | bl c =>
    refine ⟨c, lvBl er1.fg r1, ?_⟩
    cases c with
    | true => rw [if_pos rfl]; exact se_and2 hb hc er1 h1
    | false => rw [if_neg Bool.false_ne_true]; exact h1 _ _ _ _ er1.refl (Rep.lv er1.fg _ (.bl _))
  | _ => exact h1.elim
theorem se_and4 {a b c d : ME} {e1 e2 e3 e4 : Expr} {pos : Pos} (ha : SE X z W S T a e1) (hb : SE X z W S T b e2) (hc : SE X z W S T c e3) (hd : SE X z W S T d e4) : SE X z W S T (.and a (.and b (.and c d))) (.BoolOp .And [e1, e2, e3, e4] pos) := fun {σ H F G env n Q} er h => by
  refine (pe_and (peW e1) (peW _)).w (ha.use er h fun d n1 v H1 F1 G1 _ s1 er1 r1 h1 => ?_)
  cases d with
  | bl c =>
    refine ⟨c, lvBl er1.fg r1, ?_⟩
    cases c with
    | true => rw [if_pos rfl]; exact se_and3 hb hc hd er1 h1
    | false => rw [if_neg Bool.false_ne_true]; exact h1 _ _ _ _ er1.refl (Rep.lv er1.fg _ (.bl _))
  | _ => exact h1.elim
theorem se_or3 {a b c : ME} {e1 e2 e3 : Expr} {pos : Pos} (ha : SE X z W S T a e1) (hb : SE X z W S T b e2) (hc : SE X z W S T c e3) : SE X z W S T (.or a (.or b c)) (.BoolOp .Or [e1, e2, e3] pos) := fun {σ H F G env n Q} er h => by
  refine (pe_or (peW e1) (peW _)).w (ha.use er h fun d n1 v H1 F1 G1 _ s1 er1 r1 h1 => ?_)
  cases d with
  | bl c =>
    refine ⟨c, lvBl er1.fg r1, ?_⟩
    cases c with
    | false => rw [if_neg Bool.false_ne_true]; exact se_or2 hb hc er1 h1
    | true => rw [if_pos rfl]; exact h1 _ _ _ _ er1.refl (Rep.lv er1.fg _ (.bl _))
  | _ => exact h1.elim
theorem PostE.low {σ : St} {H F G : Hp} {l m : Nat} {o : Out D} {Q : VK} (hl : m ≤ l) (hf : ∀ {H' F' G' n'}, Step z H F G H' F' G' n' → True) (h : PostE z W σ H F G m o Q) : PostE z W σ H F G l o Q := by
  cases o with
  | ok d n' =>
    intro v H' F' G' st r
    refine h v H' F' G' st ?_
    match m, l, hl, r with
    | 0, l, _, r => exact r.g st.fg
    | 1, l, hl, r => exact r.i st.fg (by omega)
    | k + 2, l, hl, r => exact r.two (by omega)
  | ex c n' => exact h
  | bad => exact h
theorem se_ite {t a b : ME} {e0 e1 e2 : Expr} {pos : Pos} (ht : ST X z W S T t e0) (ha : SE X z W S T a e1) (hb : SE X z W S T b e2) : SE X z W S T (.ite t a b) (.IfExp e0 e1 e2 pos) := fun {σ H F G env n Q} er h => by
  refine (pe_ifExp (ptW e0) (peW e1) (peW e2)).w (ht.use er h (fun d n hd => by cases d <;> first | rfl | exact absurd rfl (hd _)) fun c n1 H1 F1 G1 _ s1 er1 h1 => ?_)
  cases c with
  | true => rw [if_pos rfl]; exact ha er1 (PostE.low (Nat.min_le_left _ _) (fun _ => trivial) h1)
  | false => rw [if_neg Bool.false_ne_true]; exact hb er1 (PostE.low (Nat.min_le_right _ _) (fun _ => trivial) h1)
/-! ### a < b < c -/
theorem se_chn {p q : P2} {a b c : ME} {e1 e2 e3 : Expr} {op op' : CmpOp} {pos : Pos} (hp : Pr2 X z p (compareOp op)) (hq : Pr2 X z q (compareOp op')) (hm : lastMarks [op, op'] [e2, e3] = false) (ha : SE X z W S T a e1) (hb : SE X z W S T b e2) (hc : SE X z W S T c e3)
    (l1 : lv2 p = fun _ _ => 2) (l2 : lv2 q = fun _ _ => 2) : SE X z W S T (.chn p q a b c) (.Compare e1 [op, op'] [e2, e3] pos) := fun {σ H F G env n Q} er h => by
  refine (pe_chain w2R w2R (peW e1) (peW e2) (peW e3) hm).w (ha.use er h fun d n1 v H1 F1 G1 _ s1 er1 r1 h1 => hb.use er1 h1 fun d2 n2 v2 H2 F2 G2 _ s2 er2 r2 h2 => ?_)
  cases hr : sem2 p n2 d d2 with
  | none => rw [hr] at h2; exact h2.elim
  | some r =>
    rw [hr] at h2
    refine hp er2 (r1.mono s2.ff s2.gg) r2 hr fun v H3 F3 G3 s3 rr => ?_
    have er3 := er2.step s3
    cases r with
    | bl k =>
      refine ⟨k, lvBl s3.fg rr, ?_⟩
      cases k with
      | false =>
        rw [if_neg Bool.false_ne_true]
        exact h2 _ _ _ _ s3 (Rep.lv s3.fg _ (.bl _))
      | true =>
        rw [if_pos rfl]
        refine hc.use er3 (PostE.step s3 h2) fun d4 n4 v4 H4 F4 G4 _ s4 er4 r4 h4 => ?_
        obtain ⟨r, hr, hq'⟩ := h4.lift
        refine hq er4 ((r2.mono s3.ff s3.gg).mono s4.ff s4.gg) r4 hr ?_
        rw [l2]
        exact hq'
    | _ => exact h2.elim
theorem st_chn {p q : P2} {a b c : ME} {e1 e2 e3 : Expr} {op op' : CmpOp} {pos : Pos} (hp : Pr2 X z p (compareOp op)) (hq : Pr2 X z q (compareOp op')) (hm : lastMarks [op, op'] [e2, e3] = false) (ha : SE X z W S T a e1) (hb : SE X z W S T b e2) (hc : SE X z W S T c e3)
    (l1 : lv2 p = fun _ _ => 2) (l2 : lv2 q = fun _ _ => 2) : ST X z W S T (.chn p q a b c) (.Compare e1 [op, op'] [e2, e3] pos) := fun {σ H F G env n Q} er h => by
  refine (pt_chain w2R w2R (peW e1) (peW e2) (peW e3) hm).w (ha.useT er h fun d n1 v H1 F1 G1 _ s1 er1 r1 h1 => hb.useT er1 h1 fun d2 n2 v2 H2 F2 G2 _ s2 er2 r2 h2 => ?_)
  cases hr : sem2 p n2 d d2 with
  | none => rw [hr] at h2; exact h2.elim
  | some r =>
    rw [hr] at h2
    refine hp er2 (r1.mono s2.ff s2.gg) r2 hr fun v H3 F3 G3 s3 rr => ?_
    have er3 := er2.step s3
    cases r with
    | bl k =>
      refine ⟨k, lvBl s3.fg rr, ?_⟩
      cases k with
      | false =>
        rw [if_neg Bool.false_ne_true]
        exact ⟨false, rfl, h2 _ _ _ s3⟩
      | true =>
        rw [if_pos rfl]
        refine hc.useT er3 (PostT.step s3 h2) fun d4 n4 v4 H4 F4 G4 _ s4 er4 r4 h4 => ?_
        cases hr2 : sem2 q n4 d2 d4 with
        | none => rw [hr2] at h4; exact h4.elim
        | some r =>
          rw [hr2] at h4
          refine hq er4 ((r2.mono s3.ff s3.gg).mono s4.ff s4.gg) r4 hr2 fun v H' F' G' st rr => ?_
          cases r with
          | bl b => exact ⟨b, lvBl st.fg rr, h4 H' F' G' st⟩
          | _ => exact h4.elim
    | _ => exact h2.elim

/-! ### arguments, displays -/
theorem sa_nil : SA X z W S T .nil [] := fun er h => pa_nil.w (h _ _ _ _ er.refl .nil fun _ => .nil)
theorem sa_cons {a : ME} {as : MEs} {e : Expr} {es : List Expr} (hn : noStar e = true) (ha : SE X z W S T a e) (hs : SA X z W S T as es) : SA X z W S T (.cons a as) (e :: es) := fun {σ H F G env n Q} er h => by
  refine (pa_cons (peW e) (paW es) (starEach_cons es _ hn)).w (ha er ?_)
  simp only [evA] at h
  cases h1 : evE S T a env n with
  | ok d n1 =>
    rw [h1, Out.bind_ok] at h
    intro v H1 F1 G1 s1 r1
    refine hs (er.step s1) ?_
    cases h2 : evA S T as env n1 with
    | ok ds n2 =>
      rw [h2, Out.bind_ok] at h
      intro vs H2 F2 G2 s2 r2 f2
      refine h (v :: vs) H2 F2 G2 (s1.trans s2) (.cons ((r1.g s1.fg).mono s2.gg) r2) fun h2 => ?_
      simp only [levA, Bool.and_eq_true, decide_eq_true_eq] at h2
      exact .cons ((r1.two h2.1).mono s2.ff) (f2 h2.2)
    | ex c n2 =>
      rw [h2, Out.bind_ex] at h
      exact fun H2 F2 G2 s2 => h H2 F2 G2 (s1.trans s2)
    | bad =>
      rw [h2, Out.bind_bad] at h
      exact h
  | ex c n1 =>
    rw [h1, Out.bind_ex] at h
    exact h
  | bad =>
    rw [h1, Out.bind_bad] at h
    exact h
theorem SA.use {as : MEs} {es : List Expr} (ha : SA X z W S T as es) {σ : St} {H F G : Hp} {env : Ev} {n : Nat} (er : ER z σ H F G env n) {f : List D → Nat → Out D} {lv : Nat} {Q : VK} {Q1 : List V → Hp → Prop} (h : PostE z W σ H F G lv ((evA S T as env n).bind f) Q)
    (k : ∀ ds n1 vs H1 F1 G1, Step z H F G H1 F1 G1 n1 → ER z σ H1 F1 G1 env n1 → RepL z.toCn G1 vs ds → (levA z.own as = true → RepL z.toCn F1 vs ds) → PostE z W σ H1 F1 G1 lv (f ds n1) Q → Q1 vs H1) : wA X es σ H Q1 := by
  refine ha er ?_
  cases h1 : evA S T as env n with
  | ok d n1 =>
    rw [h1] at h
    exact fun v H1 F1 G1 st r r2 => k d n1 v H1 F1 G1 st (er.step st) r r2 (PostE.step st h)
  | ex c n1 =>
    rw [h1] at h
    exact h
  | bad =>
    rw [h1] at h
    exact h
theorem if_two {b : Bool} (h : 1 ≤ (if b = true then 2 else 0)) : b = true := by
  cases b with
  | true => rfl
  | false => simp at h
theorem fit_some {ds es : List D} (h : fit ds = some es) : es = ds ∧ ds.length ≤ sizeLine := by
  unfold fit at h
  split at h
  · rename_i q
    cases h
    exact ⟨rfl, by rw [← line_eq]; exact q⟩
  · cases h
theorem se_tup {as : MEs} {es : List Expr} {k : Nat} {pos : Pos} (ha : SA X z W S T as es) : SE X z W S T (.tup as) (.Tuple es k pos) := fun {σ H F G env n Q} er h => by
  refine (pe_tup (paW es)).w (ha.use er h fun ds n1 vs H1 F1 G1 s1 er1 r f h1 => ?_)
  obtain ⟨r', hr, hq⟩ := h1.lift
  obtain ⟨es', hr', rfl⟩ := Option.map_eq_some_iff.mp hr
  obtain ⟨rfl, hz⟩ := fit_some hr'
  exact ⟨by rw [r.length]; exact hz, fun p hp => fin_tup er1 hp r (fun hl => f (if_two hl)) hq⟩
theorem se_lst {as : MEs} {es : List Expr} {pos : Pos} (ha : SA X z W S T as es) : SE X z W S T (.lst as) (.List es pos) := fun {σ H F G env n Q} er h => by
  refine (pe_lst (paW es)).w (ha.use er h fun ds n1 vs H1 F1 G1 s1 er1 r f h1 => ?_)
  obtain ⟨r', hr, hq⟩ := h1.lift
  obtain ⟨es', hr', rfl⟩ := Option.map_eq_some_iff.mp hr
  obtain ⟨rfl, hz⟩ := fit_some hr'
  exact ⟨by rw [r.length]; exact hz, fun p hp => fin_lst er1 hp r (fun hl => f (if_two hl)) hq⟩

/-! ### built-in calls -/
theorem se_call1 {p : P1} {a : ME} {e : Expr} {x : Str} {id : String} {q pos : Pos} (hp : Pr1 X z S p (.builtin id) []) (hg : Gl X x) (hm : X.mg x = none) (hv : bootBuiltins x = some (.builtin id)) (hn : noStar e = true) (ha : SE X z W S T a e)
    (hx : x ≠ "__name__" := by decide) (hd : (x == ("__debug__" : Str)) = false := by decide) : SE X z W S T (.p1 p a) (.Call (.Name x q) [e] [] pos) := fun {σ H F G env n Q} er h => by
  refine (pe_callB wCR hg hm hv (pa_cons (peW e) pa_nil (starEach_cons [] _ hn)) hx hd (starEach_cons [] _ hn) rfl).w (ha.use er h fun d n1 v H1 F1 G1 _ s1 er1 r1 h1 => ?_)
  obtain ⟨r, hr, hq⟩ := h1.lift
  exact hp er1 r1 hr hq
theorem se_callT1 {p : P1} {a : ME} {e : Expr} {x : Str} {id : String} {q pos : Pos} (hp : Pr1 X z S p (.type id) []) (hg : Gl X x) (hm : X.mg x = none) (hv : bootBuiltins x = some (.type id)) (hn : noStar e = true) (ha : SE X z W S T a e)
    (hx : x ≠ "__name__" := by decide) (hd : (x == ("__debug__" : Str)) = false := by decide) : SE X z W S T (.p1 p a) (.Call (.Name x q) [e] [] pos) := fun {σ H F G env n Q} er h => by
  refine (pe_callTy wCR hg hm hv (pa_cons (peW e) pa_nil (starEach_cons [] _ hn)) hx hd (starEach_cons [] _ hn) rfl).w (ha.use er h fun d n1 v H1 F1 G1 _ s1 er1 r1 h1 => ?_)
  obtain ⟨r, hr, hq⟩ := h1.lift
  exact hp er1 r1 hr hq
/-- isinstance(e, T) -/
theorem se_isi {p : P1} {a : ME} {e e2 : Expr} {u : V} {q pos : Pos} (hp : Pr1 X z S p (.builtin "isinstance") [u]) (hg : Gl X "isinstance") (hm : X.mg "isinstance" = none) (hn : noStar e = true) (hn2 : noStar e2 = true) (ha : SE X z W S T a e) (hu : PE X e2 (tC u)) :
    SE X z W S T (.p1 p a) (.Call (.Name "isinstance" q) [e, e2] [] pos) := fun {σ H F G env n Q} er h => by
  refine (pe_callB (id := "isinstance") wCR hg hm (by decide +kernel) (pa_cons (peW e) (pa_cons hu pa_nil (starEach_cons [] _ hn2)) (starEach_cons [e2] _ hn)) (by decide) (by decide) (starEach_cons [e2] _ hn) (starEach_plain _ (by simp [hn2]))).w (ha.use er h fun d n1 v H1 F1 G1 _ s1 er1 r1 h1 => ?_)
  obtain ⟨r, hr, hq⟩ := h1.lift
  exact hp er1 r1 hr hq
theorem se_call2 {p : P2} {a b : ME} {e e2 : Expr} {x : Str} {id : String} {q pos : Pos} (hp : Pr2C X z p (.builtin id)) (hg : Gl X x) (hm : X.mg x = none) (hv : bootBuiltins x = some (.builtin id)) (hn : noStar e = true) (hn2 : noStar e2 = true) (ha : SE X z W S T a e) (hb : SE X z W S T b e2)
    (hx : x ≠ "__name__" := by decide) (hd : (x == ("__debug__" : Str)) = false := by decide) : SE X z W S T (.p2 p a b) (.Call (.Name x q) [e, e2] [] pos) := fun {σ H F G env n Q} er h => by
  refine (pe_callB wCR hg hm hv (pa_cons (peW e) (pa_cons (peW e2) pa_nil (starEach_cons [] _ hn2)) (starEach_cons [e2] _ hn)) hx hd (starEach_cons [e2] _ hn) (starEach_plain _ (by simp [hn2]))).w (ha.use er h fun d n1 v H1 F1 G1 _ s1 er1 r1 h1 => hb.use er1 h1 fun d2 n2 v2 H2 F2 G2 _ s2 er2 r2 h2 => ?_)
  obtain ⟨r, hr, hq⟩ := h2.lift
  exact hp er2 (r1.mono s2.ff s2.gg) r2 hr hq
theorem attrBase_of {o : Expr} {name : Str} {env : Env} (h : (match o with | .Call .. => false | _ => true) = true) : attributeBase o name env (eval o env) = eval o env := by
  cases o <;> first | rfl | (simp at h)
/-- o.name(e) of a list -/
theorem se_mt {p : P2} {a b : ME} {o e : Expr} {name : Str} {id : String} {apos pos : Pos} (hp : Pr2M X z p id) (slot : Slot "list" name id) (hty : typeOf (.builtin id) = pure (.type "method_descriptor")) (hn : noStar e = true)
    (hbase : attributeBase o name X.env (eval o X.env) = eval o X.env) (hline : (apos.endLine == pos.line) = true) (ha : SE X z W S T a o) (hb : SE X z W S T b e) :
    SE X z W S T (.mt p a b) (.Call (.Attribute o name apos) [e] [] pos) := fun {σ H F G env n Q} er h => by
  refine (pe_bm PySem.F.plainAttrs_list slot hty wMR (peW o) (pa_cons (peW e) pa_nil (starEach_cons [] _ hn)) hbase (by rw [starEach_cons [] _ hn]; rfl) hline (starEach_cons [] _ hn) rfl).w (ha.use er h fun d n1 v H1 F1 G1 _ s1 er1 r1 h1 => ?_)
  cases d with
  | lst xs =>
    obtain ⟨q, vs, rfl, e1, _⟩ := lvLst er1.fg r1
    refine ⟨.inl ⟨rfl, vs, SqL.of (er1.gh _ _ e1)⟩, hb.use er1 h1 fun d2 n2 v2 H2 F2 G2 _ s2 er2 r2 h2 => ?_⟩
    obtain ⟨r, hr, hq⟩ := h2.lift
    exact hp er2 (r1.mono s2.ff s2.gg) r2 hr hq
  | _ => exact h1.elim

/-- text.index(sign) -/
theorem se_sidx {a b : ME} {o e : Expr} {apos pos : Pos} (hn : noStar e = true) (hbase : attributeBase o "index" X.env (eval o X.env) = eval o X.env) (hline : (apos.endLine == pos.line) = true) (ha : SE X z W S T a o) (hb : SE X z W S T b e) :
    SE X z W S T (.ms .sidx a b) (.Call (.Attribute o "index" apos) [e] [] pos) := fun {σ H F G env n Q} er h => by
  refine (pe_bm PySem.F.plainAttrs_str PySem.F.slot_str_index PySem.F.type_str_index wMR (peW o) (pa_cons (peW e) pa_nil (starEach_cons [] _ hn)) hbase (by rw [starEach_cons [] _ hn]; rfl) hline (starEach_cons [] _ hn) rfl).w (ha.use er h fun d n1 v H1 F1 G1 _ s1 er1 r1 h1 => ?_)
  cases d with
  | str x =>
    have e1 := lvStr er1.fg r1
    subst e1
    refine ⟨rfl, hb.use er1 h1 fun d2 n2 v2 H2 F2 G2 _ s2 er2 r2 h2 => ?_⟩
    obtain ⟨r, hr, hq⟩ := h2.lift
    cases d2 with
    | str y =>
      have e2 := lvStr er2.fg r2
      subst e2
      simp only [sem2] at hr
      split at hr
      · rename_i hx
        subst hx
        split at hr
        · rename_i hy
          subst hy
          cases hr
          exact mt_sindex.w ⟨"xyz", "x", 0, [], rfl, rfl, by decide +kernel, fin_same er2 (.int _) hq⟩
        · split at hr
          · rename_i hy
            subst hy
            cases hr
            exact mt_sindex.w ⟨"xyz", "y", 1, [], rfl, rfl, by decide +kernel, fin_same er2 (.int _) hq⟩
          · split at hr
            · rename_i hy
              subst hy
              cases hr
              exact mt_sindex.w ⟨"xyz", "z", 2, [], rfl, rfl, by decide +kernel, fin_same er2 (.int _) hq⟩
            · cases hr
      · cases hr
    | _ => cases hr
  | _ => exact h1.elim

theorem strsOf_map : ∀ {ds : List D} {ys : List Str}, strsOf ds = some ys → ds = ys.map D.str
  | [], bs, h => by simp [strsOf] at h; subst h; rfl
  | d :: ds, bs, h => by
    cases d <;> simp only [strsOf, Option.map_eq_some_iff, reduceCtorEq] at h
    obtain ⟨cs, h1, rfl⟩ := h
    rw [strsOf_map h1]; rfl
theorem RepL.strsV {z : Cn} {F : Hp} : ∀ {vs : List V} {ns : List Str}, RepL z F vs (ns.map D.str) → vs = ns.map V.str
  | _, [], h => by cases h; rfl
  | _, n :: r, h => by
    cases h with
    | cons a t => cases a; rw [RepL.strsV t]; rfl
theorem txt_join (a : Str) : ∀ ys : List Str, PySem.Txt.join a ys = Str.join a ys
  | [] => rfl
  | x :: r => PySem.StrLaws.glued_cons a r x
theorem repL_strs0 {z : Cn} {F : Hp} : ∀ ns : List Str, RepL z F (ns.map V.str) (ns.map D.str)
  | [] => .nil
  | n :: r => .cons (.str n) (repL_strs0 r)
/-- text.split(sep) -/
theorem se_splt {a b : ME} {o e : Expr} {apos pos : Pos} (hn : noStar e = true) (hbase : attributeBase o "split" X.env (eval o X.env) = eval o X.env) (hline : (apos.endLine == pos.line) = true) (ha : SE X z W S T a o) (hb : SE X z W S T b e) :
    SE X z W S T (.ms .splt a b) (.Call (.Attribute o "split" apos) [e] [] pos) := fun {σ H F G env n Q} er h => by
  refine (pe_bm PySem.F.plainAttrs_str PySem.F.slot_str_split PySem.F.type_str_split mt_split (peW o) (pa_cons (peW e) pa_nil (starEach_cons [] _ hn)) hbase (by rw [starEach_cons [] _ hn]; rfl) hline (starEach_cons [] _ hn) rfl).w (ha.use er h fun d n1 v H1 F1 G1 _ s1 er1 r1 h1 => ?_)
  cases d with
  | str x =>
    have e1 := lvStr er1.fg r1
    subst e1
    refine ⟨rfl, hb.use er1 h1 fun d2 n2 v2 H2 F2 G2 _ s2 er2 r2 h2 => ?_⟩
    obtain ⟨r, hr, hq⟩ := h2.lift
    cases d2 with
    | str y =>
      have e2 := lvStr er2.fg r2
      subst e2
      simp only [sem2] at hr
      split at hr
      · rename_i hx
        cases hr
        refine ⟨x, y, rfl, rfl, by rw [hx.1]; rfl, by rw [← line_eq]; have : line = 16777216 := rfl; omega, fun p hp => ?_⟩
        exact fin_lst er2 hp (repL_strs0 _) (fun _ => repL_strs0 _) hq
      · cases hr
    | _ => cases hr
  | _ => exact h1.elim
/-- o.join(e) -/
theorem se_jn {a b : ME} {o e : Expr} {apos pos : Pos} (hn : noStar e = true)
    (hbase : attributeBase o "join" X.env (eval o X.env) = eval o X.env) (hline : (apos.endLine == pos.line) = true) (ha : SE X z W S T a o) (hb : SE X z W S T b e) :
    SE X z W S T (.jn a b) (.Call (.Attribute o "join" apos) [e] [] pos) := fun {σ H F G env n Q} er h => by
  refine (pe_bm PySem.F.plainAttrs_str PySem.F.slot_str_join PySem.F.type_str_join mt_join (peW o) (pa_cons (peW e) pa_nil (starEach_cons [] _ hn)) hbase (by rw [starEach_cons [] _ hn]; rfl) hline (starEach_cons [] _ hn) rfl).w (ha.use er (by simpa only [evE] using h) fun d n1 v H1 F1 G1 _ s1 er1 r1 h1 => ?_)
  cases d with
  | str x =>
    have ex := lvStr er1.fg r1
    subst ex
    refine ⟨rfl, hb.use er1 h1 fun d2 n2 v2 H2 F2 G2 _ s2 er2 r2 h2 => ?_⟩
    obtain ⟨r, hr, hq⟩ := h2.lift
    cases d2 with
    | lst xs =>
      have hr : ((strsOf xs).bind fun ys => if (ys.map (·.length)).sum + ys.length * x.length ≤ line then some (D.str (Str.join x ys)) else none) = some r := hr
      obtain ⟨ys, h3, h4⟩ := Option.bind_eq_some_iff.mp hr
      by_cases hz : (ys.map (·.length)).sum + ys.length * x.length ≤ line
      rotate_left
      · rw [if_neg hz] at h4; cases h4
      rw [if_pos hz] at h4
      cases h4
      have e1 := strsOf_map h3
      subst e1
      obtain ⟨q, vs, rfl, e2, ra, _⟩ := lvLst er2.fg r2
      have e3 := ra.strsV
      subst e3
      refine ⟨x, q, ys, rfl, rfl, .inl (SqL.of (er2.gh _ _ e2)), hz, ?_⟩
      rw [txt_join]
      exact fin_same er2 (.str _) hq
    | _ => cases hr
  | _ => exact h1.elim
/-! ### the calls of defs -/
/-- the heap behind a def's call -/
structure StepC (pt : Option Addr) (H F H' F' : Hp) (n' : Nat) : Prop where
  ff : Le F F'
  fh : Le F' H'
  nf : ∀ a, F' a ≠ none → F a ≠ none ∨ Fr H a
  keep : ∀ a o, H a = some o → pt ≠ some a → H' a = some o
  tw : ∀ a, pt = some a → H' a = some (.lst (List.replicate n' (.int 0))) ∧ F' a = none
/-- defs whose lists are all new -/
def freN (f : Str) : Bool := (["_law_copy", "_law_told", "_law_one", "_law_one_b", "_law_one_c", "made_of", "grown", "held"] : List Str).contains f
/-- all lists in it are new -/
def NewV (c : Cn) (H F : Hp) (v : V) (d : D) : Prop := ∃ N, Le N F ∧ (∀ a o, N a = some o → Mut (some o) → H a = none) ∧ Rep c N v d
def PostC (c : Cn) (b : Bool) (H F : Hp) (o : Out D) (Q : VK) (E : XK) : Prop := match o with
  | .ok d n' => ∀ v H' F', StepC c.pt H F H' F' n' → Rep c F' v d → (b = true → NewV c H F' v d) → Q v H'
  | .ex x n' => ∀ H' F', StepC c.pt H F H' F' n' → E (.ref (He.ga c.K x)) none H'
  | .bad => False
def spOf (K : PySem.W.Frag) (b : Bool) (k : Nat) (run : List D → Nat → Out D) : Sp := fun vs H Q E => vs.length = k ∧ ∃ (pt : Option Addr) (F : Hp) (n : Nat) (ds : List D), Le F H ∧
  (∀ a, pt = some a → H a = some (.lst (List.replicate n (.int 0))) ∧ F a = none) ∧ RepL ⟨K, pt⟩ F vs ds ∧ PostC ⟨K, pt⟩ b H F (run ds n) Q E
/-- a value without a place -/
def scal : V → Bool
  | .non => true
  | .bl _ => true
  | .int _ => true
  | .str _ => true
  | _ => false
def GdL (P : Nat → V → Prop) : Nat → List V → Prop
  | _, [] => True
  | c, v :: vs => ∃ c1 c2, c1 + c2 ≤ c ∧ P c1 v ∧ GdL P c2 vs
/-- plain, its lists in R, of at most c places -/
def Gd (R : Addr → Prop) (H : Hp) : Nat → Nat → V → Prop
  | 0, _, v => scal v = true
  | k + 1, c, v => scal v = true ∨ ∃ a vs c', v = .ref a ∧ ((c' ≤ c ∧ H a = some (.tup vs)) ∨ (c' + 1 ≤ c ∧ R a ∧ H a = some (.lst vs))) ∧ GdL (Gd R H k) c' vs
/-- lists in R have become longer, nothing else is changed -/
structure Ch (R : Addr → Prop) (c : Nat) (H H' : Hp) : Prop where
  keep : ∀ a o, H a = some o → (R a → ∀ xs, o ≠ .lst xs) → H' a = some o
  grow : ∀ a xs, R a → H a = some (.lst xs) → ∃ k, k ≤ c ∧ H' a = some (.lst (xs ++ List.replicate k (.str "late")))
def spSp (m : Nat) : Sp := fun vs H Q _ => ∃ (v : V) (R : Addr → Prop) (c M : Nat), vs = [v] ∧ Gd R H m c v ∧ (∀ a, R a → H a ≠ none) ∧ (∀ a xs, R a → H a = some (.lst xs) → xs.length ≤ M) ∧ M + c < sizeLine ∧ ∀ H', Ch R c H H' → Q .non H'
def isSpoil (f : Str) : Bool := f == ("_law_spoil" : Str)
def spG (K : PySem.W.Frag) (f : Str) (k : Nat) (run : List D → Nat → Out D) : Sp := if isSpoil f then spSp deep else spOf K (freN f) k run
structure FnG (P : Program) (w : World) (K : PySem.W.Frag) (mg : Str → Option Value) (base : Heap) (L : Nat) (f : Str) (k : Nat) (run : List D → Nat → Out D) : Prop where
  ex : ∃ (a : Addr) (fd : FuncData) (ps : List Str), FnOk P w K mg base (L2.CX P w) L a fd ps (spG K f k run) ∧ mg f = some (.ref a) ∧ PySem.W.keepIn K (.ref a) = true ∧ Binds K fd ps [] ∧ ps.length = k
/-- each name that tells anything is a def that keeps it -/
def TabOk (P : Program) (w : World) (K : PySem.W.Frag) (mg : Str → Option Value) (base : Heap) (L : Nat) (T : Tab) : Prop :=
  ∀ f k run, T f = some (k, run) → FnG P w K mg base L f k run
theorem spG_of {K : PySem.W.Frag} {f : Str} {k : Nat} {run : List D → Nat → Out D} (h : isSpoil f = false) : spG K f k run = spOf K (freN f) k run := by unfold spG; rw [h]; rfl
def un (F G : Hp) : Hp := fun a => match F a with
  | some o => some o
  | none => G a
theorem un_le {F G H : Hp} (a : Le F H) (b : Le G H) : Le (un F G) H := fun x o e => by
  unfold un at e
  split at e
  · rename_i u hu
    cases e
    exact a x _ hu
  · exact b x o e
theorem un_left {F G : Hp} : Le F (un F G) := fun x o e => by unfold un; rw [e]
theorem un_right {F G H : Hp} (a : Le F H) (b : Le G H) : Le G (un F G) := fun x o e => by
  unfold un
  split
  · rename_i u hu
    have h1 := a x _ hu
    have h2 := b x _ e
    rw [h1] at h2
    exact h2
  · exact e
theorem un_none {F G : Hp} {a : Addr} (h : un F G a ≠ none) : F a ≠ none ∨ G a ≠ none := by
  unfold un at h
  split at h
  · rename_i u hu
    exact .inl (by rw [hu]; simp)
  · exact .inr h
theorem StepC.toStep {H F G H' F' : Hp} {σ : St} {env : Ev} {n n' : Nat} (er : ER z σ H F G env n) (s : StepC z.pt H F H' F' n') : Step z H F G H' F' (un F' G) n' := by
  have gH : Le G H' := fun a o e => s.keep a o (er.gh a o e) fun q => by
    rw [(er.tw a q).2.1] at e
    cases e
  refine ⟨s.ff, un_right s.fh gH, un_left, un_le s.fh gH, s.nf, fun a h => ?_, s.keep, fun a o h q => s.keep a o (er.h0 a o h q) q, fun a h => ?_, fun a q => ⟨(s.tw a q).1, ?_, (er.tw a q).2.2⟩⟩
  · rcases un_none h with h | h
    · rcases s.nf a h with h | h
      · exact .inl (er.fg.has h)
      · exact .inr h
    · exact .inl h
  · by_cases q : z.pt = some a
    · rw [(s.tw a q).1]; simp
    · cases e : H a with
      | none => exact absurd e h
      | some o => rw [s.keep a o e q]; simp
  · refine Classical.byContradiction fun h => ?_
    rcases un_none h with h | h
    · exact h (s.tw a q).2
    · exact h (er.tw a q).2.1
theorem StepC.toStepG {H F G H' F' : Hp} {σ : St} {env : Ev} {n n' : Nat} (er : ER z σ H F G env n) (s : StepC z.pt H G H' F' n') : Step z H F G H' F F' n' := by
  refine ⟨.rfl, s.ff, er.fg.trans s.ff, s.fh, fun a h => .inl h, s.nf, s.keep, fun a o h q => s.keep a o (er.h0 a o h q) q, fun a h => ?_, fun a q => ⟨(s.tw a q).1, (s.tw a q).2, (er.tw a q).2.2⟩⟩
  by_cases q : z.pt = some a
  · rw [(s.tw a q).1]; simp
  · cases e : H a with
    | none => exact absurd e h
    | some o => rw [s.keep a o e q]; simp
theorem se_call {L : Nat} {f : Str} {as : MEs} {e : Expr} {es : List Expr} {p pos : Pos} (g : Good X z.toCn W L) (tab : TabOk X.prog X.w X.K X.mg X.base L T) (hg : Gl X f) (hd : (f == ("__debug__" : Str)) = false) (hsp : isSpoil f = false) (hn : (e :: es).all noStar = true) (ha : SA X z W S T as (e :: es)) :
    SE X z W S T (.call f as) (.Call (.Name f p) (e :: es) [] pos) := fun {σ H F G env n Q} er h => by
  simp only [List.all_cons, Bool.and_eq_true] at hn
  simp only [evE] at h
  cases hT : T f with
  | none => rw [hT] at h; exact h.elim
  | some kr =>
    obtain ⟨k, run⟩ := kr
    rw [hT] at h
    obtain ⟨a, fd, ps, ok, hm, hk, hbd, hps⟩ := (tab f k run hT).ex
    rw [spG_of hsp] at ok
    refine (pe_callS ok g.room hg hm hk hbd (fun σ => passAt g.tk σ) (paW _) hd (starEach_cons es _ hn.1) (starEach_plain _ hn.2)).w (ha.use er h fun ds n1 vs H1 F1 G1 s1 er1 r rf h1 => ?_)
    split at h1
    · rename_i hl
      refine ⟨by rw [r.length]; exact hl, z.pt, ?_⟩
      cases two : levA z.own as with
      | true =>
        refine ⟨F1, n1, ds, er1.fg.trans er1.gh, fun a q => ⟨(er1.tw a q).1, er1.fg.non (er1.tw a q).2.1⟩, by rw [g.K]; exact rf two, ?_⟩
        rw [g.K]
        simp only [lev, two, if_true] at h1
        revert h1
        cases run ds n1 with
        | ok d n' => exact fun h1 v H' F' st r _ => h1 v H' F' _ (StepC.toStep er1 st) r
        | ex c n' => exact fun h1 H' F' st => h1 H' F' _ (StepC.toStep er1 st)
        | bad => exact fun h1 => h1
      | false =>
        refine ⟨G1, n1, ds, er1.gh, fun a q => ⟨(er1.tw a q).1, (er1.tw a q).2.1⟩, by rw [g.K]; exact r, ?_⟩
        rw [g.K]
        simp only [lev, two, Bool.false_eq_true, if_false] at h1
        revert h1
        cases run ds n1 with
        | ok d n' => exact fun h1 v H' F' st r _ => h1 v H' F1 F' (StepC.toStepG er1 st) r
        | ex c n' => exact fun h1 H' F' st => h1 H' F1 F' (StepC.toStepG er1 st)
        | bad => exact fun h1 => h1
    · exact h1.elim
end
end L2.Ms

namespace L2.Ms
open PySem PySem.Spec PyProof.Rows Mv
section
variable {X : Cx} {z : Fx} {W : WX} {S : Sub} {T : Tab}
theorem se_neg {a : ME} {e : Expr} {pos : Pos} (ha : SE X z W S T a e) : SE X z W S T (.p1 .neg a) (.UnaryOp .USub e pos) := fun {σ H F G env n Q} er h => by
  refine (pe_un un_neg (peW e)).w (ha.use er h fun d n1 v H1 F1 G1 _ s1 er1 r1 h1 => ?_)
  obtain ⟨r, hr, hq⟩ := h1.lift
  cases d <;> simp only [sem1, reduceCtorEq, Option.some.injEq] at hr
  subst hr
  exact ⟨_, lvInt er1.fg r1, fin_same er1 (.int _) hq⟩
theorem se_rev {a : ME} {e : Expr} {k : Nat} {p1 p2 p3 pos : Pos} (ha : SE X z W S T a e) : SE X z W S T (.p1 .rev a) (.Subscript e (.Slice none none (some (.UnaryOp .USub (.Constant (.int 1) k p1) p2)) p3) pos) := fun {σ H F G env n Q} er h => by
  refine (pe_revL (peW e)).w (ha.use er h fun d n1 v H1 F1 G1 _ s1 er1 r1 h1 => ?_)
  obtain ⟨r, hr, hq⟩ := h1.lift
  cases d <;> simp only [sem1, reduceCtorEq, Option.some.injEq] at hr
  subst hr
  obtain ⟨a, vs, rfl, ea, ra, fa⟩ := lvLst er1.fg r1
  exact ⟨a, vs, rfl, SqL.of (er1.gh _ _ ea), fun p hp => fin_lst er1 hp ra.reverse (fun hl => (fa (lv_one hl)).reverse) hq⟩
theorem isN_of {n : Nat} {d r : D} {F : Hp} {v : V} (h : sem1 S .isN n d = some r) (q : Rep z.toCn F v d) : r = .bl (decide (v = .non)) := by
  cases q <;> simp only [sem1, reduceCtorEq, Option.some.injEq] at h <;> subst h <;> simp
theorem notN_of {n : Nat} {d r : D} {F : Hp} {v : V} (h : sem1 S .notN n d = some r) (q : Rep z.toCn F v d) : r = .bl (!decide (v = .non)) := by
  cases q <;> simp only [sem1, reduceCtorEq, Option.some.injEq] at h <;> subst h <;> simp
theorem se_isN {a : ME} {e : Expr} {j : Nat} {p' pos : Pos} (ha : SE X z W S T a e) : SE X z W S T (.p1 .isN a) (.Compare e [.Is] [.Constant .none j p'] pos) := fun {σ H F G env n Q} er h => by
  refine (pe_cmp (pc_isN (peW e)) (nobehind _ (by decide) (by decide))).w (ha.use er h fun d n1 v H1 F1 G1 _ s1 er1 r1 h1 => ?_)
  obtain ⟨r, hr, hq⟩ := h1.lift
  have e1 := isN_of hr (r1.g er1.fg)
  subst e1
  exact fin_same er1 (.bl _) hq
theorem se_notN {a : ME} {e : Expr} {j : Nat} {p' pos : Pos} (ha : SE X z W S T a e) : SE X z W S T (.p1 .notN a) (.Compare e [.IsNot] [.Constant .none j p'] pos) := fun {σ H F G env n Q} er h => by
  refine (pe_cmp (pc_notN (peW e)) (nobehind _ (by decide) (by decide))).w (ha.use er h fun d n1 v H1 F1 G1 _ s1 er1 r1 h1 => ?_)
  obtain ⟨r, hr, hq⟩ := h1.lift
  have e1 := notN_of hr (r1.g er1.fg)
  subst e1
  exact fin_same er1 (.bl _) hq
theorem st_isN {a : ME} {e : Expr} {j : Nat} {p' pos : Pos} (ha : SE X z W S T a e) : ST X z W S T (.p1 .isN a) (.Compare e [.Is] [.Constant .none j p'] pos) := fun {σ H F G env n Q} er h => by
  refine (pt_cmp (pc_isN (peW e)) (nobehind _ (by decide) (by decide))).w (ha.useT er h fun d n1 v H1 F1 G1 _ s1 er1 r1 h1 => ?_)
  cases hr : sem1 S .isN n1 d with
  | none => rw [hr] at h1; exact h1.elim
  | some r =>
    rw [hr] at h1
    have e1 := isN_of hr (r1.g er1.fg)
    subst e1
    exact ⟨_, rfl, h1 _ _ _ er1.refl⟩
theorem st_notN {a : ME} {e : Expr} {j : Nat} {p' pos : Pos} (ha : SE X z W S T a e) : ST X z W S T (.p1 .notN a) (.Compare e [.IsNot] [.Constant .none j p'] pos) := fun {σ H F G env n Q} er h => by
  refine (pt_cmp (pc_notN (peW e)) (nobehind _ (by decide) (by decide))).w (ha.useT er h fun d n1 v H1 F1 G1 _ s1 er1 r1 h1 => ?_)
  cases hr : sem1 S .notN n1 d with
  | none => rw [hr] at h1; exact h1.elim
  | some r =>
    rw [hr] at h1
    have e1 := notN_of hr (r1.g er1.fg)
    subst e1
    exact ⟨_, rfl, h1 _ _ _ er1.refl⟩
/-- any value as a test -/
theorem truth_of (hK : X.K = z.K) {d : D} {b : Bool} {F H : Hp} {v : V} (l : Le F H) (h : truth d = some b) (q : Rep z.toCn F v d) : TruW X.K v H b := by
  cases q with
  | non => simp only [truth, Option.some.injEq] at h; exact .inl h.symm
  | bl c => simp only [truth, Option.some.injEq] at h; exact .inl h.symm
  | int i => simp only [truth, Option.some.injEq] at h; exact .inl h.symm
  | str x =>
    simp only [truth] at h
    split at h
    · rename_i hz
      simp only [Option.some.injEq] at h
      refine .inl ⟨by rw [← line_eq]; exact hz, ?_⟩
      rw [← h]
      cases e : x.length with
      | zero => rfl
      | succ k => simp; omega
    · cases h
  | lst e r =>
    simp only [truth, Option.some.injEq] at h
    refine .inl (.inl ⟨_, SqL.of (l _ _ e), ?_⟩)
    rw [← h]
    cases r <;> rfl
  | tup e r =>
    simp only [truth, Option.some.injEq] at h
    refine .inl (.inr (.inl ⟨_, SqT.of (l _ _ e), ?_⟩))
    rw [← h]
    cases r <;> rfl
  | scr e =>
    simp only [truth, Option.some.injEq] at h
    refine .inl (.inl ⟨_, by rw [hK]; exact sqL_mono l e, ?_⟩)
    rw [← h]
    simp
  | exc e => simp [truth] at h
  | town e => simp [truth] at h
  | dic e r => simp [truth] at h
  | fdk e r => simp [truth] at h
  | fdt e r => simp [truth] at h
  | dit e r =>
    simp only [truth, Option.some.injEq] at h
    refine .inr ⟨_, _, rfl, .inl (l _ _ e), ?_⟩
    rw [← h]
    cases r <;> rfl
theorem st_tru (hK : X.K = z.K) {a : ME} {e : Expr} (he : ∀ whole, isTrue e X.env whole = (do let v ← whole; standAt e.pos; holding [v] (truthy v))) (ha : SE X z W S T a e) : ST X z W S T (.p1 .tru a) e := fun {σ H F G env n Q} er h => by
  refine (pt_truthW (peW e) he).w (ha.useT er h fun d n1 v H1 F1 G1 _ s1 er1 r1 h1 => ?_)
  cases hr : sem1 S .tru n1 d with
  | none => rw [hr] at h1; exact h1.elim
  | some r =>
    rw [hr] at h1
    have hr' : (truth d).map D.bl = some r := by cases d <;> exact hr
    obtain ⟨b, hb, rfl⟩ := Option.map_eq_some_iff.mp hr'
    exact ⟨b, truth_of hK er1.gh hb (r1.g er1.fg), h1 _ _ _ er1.refl⟩
theorem range_eq (i : Int) : rgV 0 i = (List.range i.toNat).map fun k => V.int (k : Nat) := by
  unfold rgV
  have : (i - 0).toNat = i.toNat := by omega
  rw [this]
  apply List.map_congr_left
  intro k _
  simp
theorem repL_range {c : Cn} {F : Hp} (i : Int) : RepL c F (rgV 0 i) (Mv.range i) := by
  rw [range_eq]
  unfold Mv.range
  generalize List.range i.toNat = l
  induction l with
  | nil => exact .nil
  | cons k r ih => exact .cons (.int _) ih
theorem rg_ok {i : Int} (h : i ≤ (line : Nat)) (h2 : -(2 ^ 62) ≤ i) : RgOk 0 i := by
  have : (line : Nat) = 16777216 := rfl
  refine ⟨by omega, by omega, h2, by omega, by omega⟩
theorem se_rngL {a : ME} {e : Expr} {p p2 pos pos2 : Pos} (hc : X.calm = true) (hg : Gl X "list") (hm : X.mg "list" = none) (hg2 : Gl X "range") (hm2 : X.mg "range" = none) (hn : noStar e = true) (ha : SE X z W S T a e) :
    SE X z W S T (.p1 .rngL a) (.Call (.Name "list" p) [.Call (.Name "range" p2) [e] [] pos2] [] pos) := fun {σ H F G env n Q} er h => by
  refine (pe_listRg hc hg hm (prg_1 hg2 hm2 (peW e) (starEach_cons [] _ hn)) rfl).w (ha.use er h fun d n1 v H1 F1 G1 _ s1 er1 r1 h1 => ?_)
  obtain ⟨r, hr, hq⟩ := h1.lift
  cases d <;> simp only [sem1, reduceCtorEq] at hr
  split at hr <;> cases hr
  rename_i hi
  exact ⟨_, lvInt er1.fg r1, rg_ok hi.1 hi.2, fun p hp => fin_lst er1 hp (repL_range _) (fun _ => repL_range _) hq⟩
theorem se_rngT {a : ME} {e : Expr} {p p2 pos pos2 : Pos} (hc : X.calm = true) (hg : Gl X "tuple") (hm : X.mg "tuple" = none) (hg2 : Gl X "range") (hm2 : X.mg "range" = none) (hn : noStar e = true) (ha : SE X z W S T a e) :
    SE X z W S T (.p1 .rngT a) (.Call (.Name "tuple" p) [.Call (.Name "range" p2) [e] [] pos2] [] pos) := fun {σ H F G env n Q} er h => by
  refine (pe_tupRg hc hg hm (prg_1 hg2 hm2 (peW e) (starEach_cons [] _ hn)) rfl).w (ha.use er h fun d n1 v H1 F1 G1 _ s1 er1 r1 h1 => ?_)
  obtain ⟨r, hr, hq⟩ := h1.lift
  cases d <;> simp only [sem1, reduceCtorEq] at hr
  split at hr <;> cases hr
  rename_i hi
  exact ⟨_, lvInt er1.fg r1, rg_ok hi.1 hi.2, fun p hp => fin_tup er1 hp (repL_range _) (fun _ => repL_range _) hq⟩
/-! ### sets -/
theorem ints_at {l : Nat} {σ : St} {H F G : Hp} {env : Ev} {n : Nat} {v : V} {xs : List D} {ns : List Int} (hK : X.K = z.K) (er : ER z σ H F G env n) (h : intsOf xs = some ns) :
    (RepLv z.toCn l F G v (.lst xs) → ∃ a, v = .ref a ∧ (SqL X.K H a (ns.map V.int) ∨ SqT X.K H a (ns.map V.int))) ∧ (RepLv z.toCn l F G v (.tup xs) → ∃ a, v = .ref a ∧ (SqL X.K H a (ns.map V.int) ∨ SqT X.K H a (ns.map V.int))) := by
  have e := intsOf_map h
  subst e
  refine ⟨fun r => ?_, fun r => ?_⟩
  · obtain ⟨a, vs, rfl, ea, ra, _⟩ := lvLst er.fg r
    have e := ra.intsV
    subst e
    exact ⟨a, rfl, .inl (SqL.of (er.gh _ _ ea))⟩
  · obtain ⟨a, vs, rfl, ea, ra, _⟩ := lvTup er.fg r
    have e := ra.intsV
    subst e
    exact ⟨a, rfl, .inr (SqT.of (er.gh _ _ ea))⟩
theorem set_arg {p : P1} {n : Nat} {d r : D} {f : List Int → D} (hp : (∀ xs, sem1 S p n (.lst xs) = (intsOf xs).bind fun ns => if ns.length ≤ 60 then some (f ns) else none) ∧ (∀ xs, sem1 S p n (.tup xs) = (intsOf xs).bind fun ns => if ns.length ≤ 60 then some (f ns) else none) ∧ ∀ d, (∀ xs, d ≠ .lst xs) → (∀ xs, d ≠ .tup xs) → sem1 S p n d = none) (h : sem1 S p n d = some r) :
    ∃ xs ns, (d = .lst xs ∨ d = .tup xs) ∧ intsOf xs = some ns ∧ ns.length ≤ 60 ∧ r = f ns := by
  have fin : ∀ xs, (intsOf xs).bind (fun ns => if ns.length ≤ 60 then some (f ns) else none) = some r → ∃ ns, intsOf xs = some ns ∧ ns.length ≤ 60 ∧ r = f ns := fun xs h => by
    obtain ⟨ns, h1, h2⟩ := Option.bind_eq_some_iff.mp h
    split at h2
    · rename_i q; cases h2; exact ⟨ns, h1, q, rfl⟩
    · cases h2
  by_cases c1 : ∃ xs, d = .lst xs
  · obtain ⟨xs, rfl⟩ := c1
    rw [hp.1] at h
    obtain ⟨ns, q⟩ := fin xs h
    exact ⟨xs, ns, .inl rfl, q⟩
  · by_cases c2 : ∃ xs, d = .tup xs
    · obtain ⟨xs, rfl⟩ := c2
      rw [hp.2.1] at h
      obtain ⟨ns, q⟩ := fin xs h
      exact ⟨xs, ns, .inr rfl, q⟩
    · rw [hp.2.2 d (fun xs e => c1 ⟨xs, e⟩) (fun xs e => c2 ⟨xs, e⟩)] at h
      cases h
theorem sset_form (n : Nat) : (∀ xs, sem1 S .sset n (.lst xs) = (intsOf xs).bind fun ns => if ns.length ≤ 60 then some (.lst (iD (sortI (once ns)))) else none) ∧ (∀ xs, sem1 S .sset n (.tup xs) = (intsOf xs).bind fun ns => if ns.length ≤ 60 then some (.lst (iD (sortI (once ns)))) else none) ∧ ∀ d, (∀ xs, d ≠ .lst xs) → (∀ xs, d ≠ .tup xs) → sem1 S .sset n d = none :=
  ⟨fun _ => rfl, fun _ => rfl, fun d h1 h2 => by cases d <;> first | rfl | exact absurd rfl (h1 _) | exact absurd rfl (h2 _)⟩
theorem lset_form (n : Nat) : (∀ xs, sem1 S .lset n (.lst xs) = (intsOf xs).bind fun ns => if ns.length ≤ 60 then some (.int (once ns).length) else none) ∧ (∀ xs, sem1 S .lset n (.tup xs) = (intsOf xs).bind fun ns => if ns.length ≤ 60 then some (.int (once ns).length) else none) ∧ ∀ d, (∀ xs, d ≠ .lst xs) → (∀ xs, d ≠ .tup xs) → sem1 S .lset n d = none :=
  ⟨fun _ => rfl, fun _ => rfl, fun d h1 h2 => by cases d <;> first | rfl | exact absurd rfl (h1 _) | exact absurd rfl (h2 _)⟩
theorem se_sset {a : ME} {e : Expr} {p p2 pos pos2 : Pos} (hc : X.calm = true) (hK : X.K = z.K) (hg : Gl X "sorted") (hm : X.mg "sorted" = none) (hg2 : Gl X "set") (hm2 : X.mg "set" = none) (hn : noStar e = true) (ha : SE X z W S T a e) :
    SE X z W S T (.p1 .sset a) (.Call (.Name "sorted" p) [.Call (.Name "set" p2) [e] [] pos2] [] pos) := fun {σ H F G env n Q} er h => by
  refine w_srtSet hc hg hm hg2 hm2 (starEach_cons [] _ hn) (ha.use er h fun d n1 v H1 F1 G1 _ s1 er1 r1 h1 => ?_)
  obtain ⟨r, hr, hq⟩ := h1.lift
  obtain ⟨xs, ns, hd, hi, hl, rfl⟩ := set_arg (sset_form n1) hr
  have q : ∃ a, v = .ref a ∧ (SqL X.K H1 a (ns.map V.int) ∨ SqT X.K H1 a (ns.map V.int)) := by
    rcases hd with rfl | rfl
    · exact (ints_at hK er1 hi).1 r1
    · exact (ints_at hK er1 hi).2 r1
  obtain ⟨b, rfl, hb⟩ := q
  exact ⟨b, ns, rfl, hb, hl, fun p hp => fin_lst er1 hp (repL_ints _) (fun _ => repL_ints _) hq⟩
theorem se_lset {a : ME} {e : Expr} {p p2 pos pos2 : Pos} (hc : X.calm = true) (hK : X.K = z.K) (hg : Gl X "len") (hm : X.mg "len" = none) (hg2 : Gl X "set") (hm2 : X.mg "set" = none) (hn : noStar e = true) (ha : SE X z W S T a e) :
    SE X z W S T (.p1 .lset a) (.Call (.Name "len" p) [.Call (.Name "set" p2) [e] [] pos2] [] pos) := fun {σ H F G env n Q} er h => by
  refine w_lenSet hc hg hm hg2 hm2 (starEach_cons [] _ hn) (ha.use er h fun d n1 v H1 F1 G1 _ s1 er1 r1 h1 => ?_)
  obtain ⟨r, hr, hq⟩ := h1.lift
  obtain ⟨xs, ns, hd, hi, hl, rfl⟩ := set_arg (lset_form n1) hr
  have q : ∃ a, v = .ref a ∧ (SqL X.K H1 a (ns.map V.int) ∨ SqT X.K H1 a (ns.map V.int)) := by
    rcases hd with rfl | rfl
    · exact (ints_at hK er1 hi).1 r1
    · exact (ints_at hK er1 hi).2 r1
  obtain ⟨b, rfl, hb⟩ := q
  exact ⟨b, ns, rfl, hb, hl, fin_same er1 (.int _) hq⟩
theorem tups_at {c : Cn} {G : Hp} : ∀ {vs : List V} {xs : List D} {ks : List (List Int)}, RepL c G vs xs → tupsI xs = some ks → ∃ ps : List (Addr × List Int), vs = ps.map (fun p => V.ref p.1) ∧ ps.map (·.2) = ks ∧ ∀ p ∈ ps, G p.1 = some (.tup (p.2.map V.int))
  | _, [], _, h, e => by cases h; cases e; exact ⟨[], rfl, rfl, fun _ h => nomatch h⟩
  | _, d :: r, _, .cons hd hr, e => by
    cases d with
    | tup ys =>
      obtain ⟨k, hk, e⟩ := Option.bind_eq_some_iff.mp e
      obtain ⟨ks, hks, e⟩ := Option.map_eq_some_iff.mp e
      subst e
      obtain ⟨ps, e1, e2, e3⟩ := tups_at hr hks
      have ey := intsOf_map hk
      subst ey
      cases hd with
      | tup ea ra =>
        have ez := ra.intsV
        subst ez
        rename_i a
        refine ⟨(a, k) :: ps, by rw [e1]; rfl, by simp [e2], fun p hp => ?_⟩
        rcases List.mem_cons.mp hp with rfl | hp
        · exact ea
        · exact e3 p hp
    | _ => cases e
theorem se_lsetT {a : ME} {e : Expr} {p p2 pos pos2 : Pos} (hc : X.calm = true) (hu : X.A.units + 64 < cLine) (hK : X.K = z.K) (hg : Gl X "len") (hm : X.mg "len" = none) (hg2 : Gl X "set") (hm2 : X.mg "set" = none) (hn : noStar e = true) (ha : SE X z W S T a e) :
    SE X z W S T (.p1 .lsetT a) (.Call (.Name "len" p) [.Call (.Name "set" p2) [e] [] pos2] [] pos) := fun {σ H F G env n Q} er h => by
  refine w_lenSetT hc hu hg hm hg2 hm2 (starEach_cons [] _ hn) (ha.use er h fun d n1 v H1 F1 G1 _ s1 er1 r1 h1 => ?_)
  obtain ⟨r, hr, hq⟩ := h1.lift
  cases d with
  | lst xs =>
    obtain ⟨ks, hk, hr⟩ := Option.bind_eq_some_iff.mp (show (tupsI xs).bind (fun ks => if ks.length ≤ 60 then some (D.int (onceL ks).length) else none) = some r from hr)
    split at hr
    · rename_i hl
      cases hr
      obtain ⟨b, vs, rfl, ea, ra, _⟩ := lvLst er1.fg r1
      obtain ⟨ps, rfl, rfl, e3⟩ := tups_at ra hk
      rw [List.length_map] at hl
      exact ⟨b, ps, rfl, SqL.of (er1.gh _ _ ea), fun p hp => SqT.of (er1.gh _ _ (e3 p hp)), by omega, fin_same er1 (.int _) hq⟩
    · cases hr
  | _ => cases hr
theorem repL_strs {c : Cn} {F : Hp} : ∀ l : List Str, RepL c F (l.map V.str) (l.map D.str)
  | [] => .nil
  | x :: r => .cons (.str x) (repL_strs r)
theorem se_ssetS {a : ME} {e : Expr} {p p2 pos pos2 : Pos} (hc : X.calm = true) (hu : X.A.units + 64 < cLine) (hg : Gl X "sorted") (hm : X.mg "sorted" = none) (hg2 : Gl X "set") (hm2 : X.mg "set" = none) (hn : noStar e = true) (ha : SE X z W S T a e) :
    SE X z W S T (.p1 .ssetS a) (.Call (.Name "sorted" p) [.Call (.Name "set" p2) [e] [] pos2] [] pos) := fun {σ H F G env n Q} er h => by
  refine w_srtTxt hc hu hg hm hg2 hm2 (starEach_cons [] _ hn) (ha.use er h fun d n1 v H1 F1 G1 _ s1 er1 r1 h1 => ?_)
  obtain ⟨r, hr, hq⟩ := h1.lift
  cases d with
  | lst xs =>
    obtain ⟨ys, hy, hr⟩ := Option.bind_eq_some_iff.mp (show (strsOf xs).bind (fun ys => if ys.length ≤ 60 then some (D.lst ((sortS (onceS ys)).map D.str)) else none) = some r from hr)
    split at hr
    · rename_i hl
      cases hr
      obtain ⟨b, vs, rfl, ea, ra, _⟩ := lvLst er1.fg r1
      have e1 := strsOf_map hy
      subst e1
      have e2 := ra.strsV
      subst e2
      exact ⟨b, ys, rfl, SqL.of (er1.gh _ _ ea), hl, fun p hp => fin_lst er1 hp (repL_strs _) (fun _ => repL_strs _) hq⟩
    · cases hr
  | _ => cases hr
theorem repK_zip {c : Cn} {F : Hp} : ∀ {ys : List Str} {vs : List V} {ds : List D}, RepL c F vs ds → RepK c F ((ys.map (Sum.inr : Str → Key)).zip vs) ((ys.map D.str).zip ds)
  | [], _, _, _ => by simp; exact .nil
  | _ :: _, _, _, .nil => by simp; exact .nil
  | y :: r, _, _, .cons h t => by
    simp only [List.map_cons, List.zip_cons_cons]
    exact .cons (.str y) h (repK_zip t)
theorem fin_dic {σ : St} {H F G : Hp} {env : Ev} {n : Nat} {Q : VK} {lv : Nat} {p : Addr} {kvs : List (Key × V)} {ds : List (D × D)} (er : ER z σ H F G env n) (hp : H p = none) (rg : RepK z.toCn G kvs ds) (rf : 1 ≤ lv → RepK z.toCn F kvs ds)
    (hq : ∀ v H' F' G', Step z H F G H' F' G' n → RepLv z.toCn lv F' G' v (.dic ds) → Q v H') : Q (.ref p) (upd H p (.dK kvs)) := by
  have st := er.refl.newF er.dom0 (o := .dK kvs) hp
  refine hq _ _ _ _ st ?_
  have gp := er.gh.non hp
  have fp := er.fg.non gp
  match lv, rf with
  | 0, _ => exact .dic upd_same (rg.mono (Le.grow gp))
  | k + 1, rf => exact Rep.lv st.fg _ (.dic upd_same ((rf (by omega)).mono (Le.grow fp)))
theorem se_dzip {a b : ME} {e1 e2 : Expr} {p p2 pos pos2 : Pos} (hc : X.calm = true) (hg : Gl X "dict") (hm : X.mg "dict" = none) (hg2 : Gl X "zip") (hm2 : X.mg "zip" = none) (hn : noStar e1 = true) (hn2 : noStar e2 = true) (ha : SE X z W S T a e1) (hb : SE X z W S T b e2) :
    SE X z W S T (.p2 .dzip a b) (.Call (.Name "dict" p) [.Call (.Name "zip" p2) [e1, e2] [] pos2] [] pos) := fun {σ H F G env n Q} er h => by
  by_cases hns : ∀ zz n1, evE S T a env n ≠ .ok (.str zz) n1
  · skip
    refine w_dictZip hc hg hm hg2 hm2 (starEach_cons [e2] _ hn) (starEach_cons [] _ hn2) (ha.use er h fun d n1 v H1 F1 G1 e0 s1 er1 r1 h1 => hb.use er1 h1 fun d2 n2 v2 H2 F2 G2 _ s2 er2 r2 h2 => ?_)
    obtain ⟨r, hr, hq⟩ := h2.lift
    cases d with
    | lst ks =>
      cases d2 with
      | lst xs =>
        obtain ⟨ys, hy, hr⟩ := Option.bind_eq_some_iff.mp (show (strsOf ks).bind (fun ys => if ys.length = xs.length ∧ ys.Nodup ∧ ys.length ≤ 60 then some (D.dic ((ys.map D.str).zip xs)) else none) = some r from hr)
        split at hr
        · rename_i hl
          cases hr
          obtain ⟨l, us, rfl, ea, ra, _⟩ := lvLst er2.fg (r1.mono s2.ff s2.gg)
          obtain ⟨m, vs, rfl, eb, rb, fb⟩ := lvLst er2.fg r2
          have e1 := strsOf_map hy
          subst e1
          have e2 := ra.strsV
          subst e2
          refine ⟨l, m, ys, vs, rfl, rfl, SqL.of (er2.gh _ _ ea), SqL.of (er2.gh _ _ eb), by rw [rb.length]; exact hl.1, hl.2.1, hl.2.2, fun p hp => fin_dic er2 hp (repK_zip rb) (fun q => repK_zip (fb ?_)) hq⟩
          refine Classical.byContradiction fun w => ?_
          simp [lev, lv2, w] at q
        · cases hr
      | _ => cases hr
    | str zz =>
      exact (hns zz n1 e0).elim
    | _ => cases hr
  · have q : ∃ zz n1, evE S T a env n = .ok (.str zz) n1 := Classical.byContradiction fun w => hns fun zz n1 e => w ⟨zz, n1, e⟩
    obtain ⟨zz, n0, e0⟩ := q
    refine w_dictZipS hc hg hm hg2 hm2 (starEach_cons [e2] _ hn) (starEach_cons [] _ hn2) (ha.use er h fun d n1 v H1 F1 G1 e1 s1 er1 r1 h1 => hb.use er1 h1 fun d2 n2 v2 H2 F2 G2 _ s2 er2 r2 h2 => ?_)
    rw [e0] at e1
    cases e1
    obtain ⟨r, hr, hq⟩ := h2.lift
    have ez := lvStr er1.fg r1
    subst ez
    cases d2 with
    | lst xs =>
      have hr : (if (sgnS zz).Nodup ∧ (sgnS zz).length ≤ 60 ∧ xs.length ≤ 60 then some (D.dic (((sgnS zz).map D.str).zip xs)) else none) = some r := hr
      split at hr
      · rename_i hl
        cases hr
        obtain ⟨m, vs, rfl, eb, rb, fb⟩ := lvLst er2.fg r2
        refine ⟨zz, m, vs, rfl, rfl, SqL.of (er2.gh _ _ eb), hl.1, hl.2.1, fun p hp => fin_dic er2 hp (repK_zip rb) (fun q => repK_zip (fb ?_)) hq⟩
        refine Classical.byContradiction fun w => ?_
        simp [lev, lv2, w] at q
      · cases hr
    | _ => cases hr
/-! ### slices -/
theorem sIx_eq (n d : Nat) (o : Option Int) : Mv.sIx n d o = HT.sIx n d o := by
  cases o with
  | none => rfl
  | some v =>
    have h := HT.clip_eq v n d
    simp only [Mv.sIx]
    split at h <;> rename_i hv
    · rw [if_pos hv]; omega
    · rw [if_neg hv]; omega
theorem cut_eq (vs : List V) (lo hi : Option Int) : Mv.cut vs lo hi = cutV vs lo hi := by
  unfold Mv.cut cutV
  rw [sIx_eq, sIx_eq]
theorem RepL.cut {c : Cn} {F : Hp} {vs : List V} {ds : List D} (h : RepL c F vs ds) (lo hi : Option Int) : RepL c F (cutV vs lo hi) (Mv.cut ds lo hi) := by
  rw [← cut_eq]
  unfold Mv.cut
  rw [h.length]
  exact (h.drop _).take _
def wO (X : Cx) (e : Option Expr) : TO := fun σ H Q => ∀ (pins : List (Addr × Obj)) (s : Shared), Inv X pins σ H s → wpAny (model X.prog X.w) X.A (evalPart e X.env) (fun u s' => ∃ o H', Inv X pins σ H' s' ∧ IsPart u o ∧ Q o H') X.xe s
theorem poW (e : Option Expr) : PO X e (wO X e) := ⟨fun pins s σ H Q I h => h pins s I⟩
theorem _root_.L2.PO.w {e : Option Expr} {t : TO} (h : PO X e t) {σ : St} {H : Hp} {Q : Option Int → Hp → Prop} (q : t σ H Q) : wO X e σ H Q := fun pins s I => h.run pins s σ H Q I q
/-- a slice's part -/
def SPt (X : Cx) (z : Fx) (W : WX) (S : Sub) (T : Tab) (l : ME) (lo : Option Expr) : Prop := (lo = none ∧ isAbs l = true) ∨ ∃ e1, lo = some e1 ∧ SE X z W S T l e1 ∧ isAbs l = false
theorem SPt.use {l : ME} {lo : Option Expr} (hp : SPt X z W S T l lo) {σ : St} {H F G : Hp} {env : Ev} {n : Nat} (er : ER z σ H F G env n) {f : Option Int → Nat → Out D} {lv : Nat} {Q : VK} {Q1 : Option Int → Hp → Prop}
    (h : PostE z W σ H F G lv ((evE S T l env n).bind fun l1 n => (Out.lift (partOf (isAbs l) l1) n).bind f) Q)
    (k : ∀ o n1 H1 F1 G1, Step z H F G H1 F1 G1 n1 → ER z σ H1 F1 G1 env n1 → PostE z W σ H1 F1 G1 lv (f o n1) Q → Q1 o H1) : wO X lo σ H Q1 := by
  rcases hp with ⟨rfl, ha⟩ | ⟨e1, rfl, hs, ha⟩
  · refine po_none.w ?_
    have e : ∃ d, l = .c d := by
      cases l with
      | c d => exact ⟨d, rfl⟩
      | _ => simp [isAbs] at ha
    obtain ⟨d, rfl⟩ := e
    rw [ha] at h
    exact k none n H F G er.refl er h
  · refine (po_some (peW e1)).w (hs.use er h fun d n1 v H1 F1 G1 _ s1 er1 r1 h1 => ?_)
    rw [ha] at h1
    cases d with
    | int i => exact ⟨i, lvInt er1.fg r1, k (some i) n1 H1 F1 G1 s1 er1 h1⟩
    | _ => exact h1.elim
theorem se_sl {a l u : ME} {e : Expr} {lo hi : Option Expr} {p2 pos : Pos} (ha : SE X z W S T a e) (hlo : SPt X z W S T l lo) (hhi : SPt X z W S T u hi) : SE X z W S T (.sl a l u) (.Subscript e (.Slice lo hi none p2) pos) := fun {σ H F G env n Q} er h => by
  have main : ∀ {r : V → Option Int → Option Int → Hp → VK → Prop}, SlR X r → (∀ d n1 v H1 F1 G1 o1 o2 H3 F3 G3 n3, evE S T a env n = .ok d n1 → RepLv z.toCn (lev z.own a) F1 G1 v d → Step z H1 F1 G1 H3 F3 G3 n3 → ER z σ H3 F3 G3 env n3 → PostE z W σ H3 F3 G3 (lev z.own (.sl a l u)) (.lift (semSl d o1 o2) n3) Q → r v o1 o2 H3 Q) → wE X (.Subscript e (.Slice lo hi none p2) pos) σ H Q := fun {r} hr k => by
    refine (pe_slice hr (peW e) (poW lo) (poW hi)).w (ha.use er h fun d n1 v H1 F1 G1 e1 s1 er1 r1 h1 => ?_)
    refine hlo.use er1 h1 fun o1 n2 H2 F2 G2 s2 er2 h2 => ?_
    exact hhi.use er2 h2 fun o2 n3 H3 F3 G3 s3 er3 h3 => k d n1 v H1 F1 G1 o1 o2 H3 F3 G3 n3 e1 r1 (s2.trans s3) er3 h3
  cases h1 : evE S T a env n with
  | ok d0 n0 =>
    cases d0 with
    | lst xs =>
      refine main sl_list fun d n1 v H1 F1 G1 o1 o2 H3 F3 G3 n3 e1 r1 st er3 h3 => ?_
      rw [h1] at e1
      cases e1
      obtain ⟨r, hr, hq⟩ := h3.lift
      simp only [semSl, Option.some.injEq] at hr
      subst hr
      obtain ⟨b, vs, rfl, ea, ra, fa⟩ := lvLst er3.fg (r1.mono st.ff st.gg)
      exact ⟨b, vs, rfl, SqL.of (er3.gh _ _ ea), fun p hp => fin_lst er3 hp (ra.cut o1 o2) (fun hl => (fa (lv_one hl)).cut o1 o2) hq⟩
    | tup xs =>
      refine main sl_tupA fun d n1 v H1 F1 G1 o1 o2 H3 F3 G3 n3 e1 r1 st er3 h3 => ?_
      rw [h1] at e1
      cases e1
      obtain ⟨r, hr, hq⟩ := h3.lift
      simp only [semSl, Option.some.injEq] at hr
      subst hr
      have r3 := r1.mono st.ff st.gg
      obtain ⟨b, vs, rfl, ea, ra, fa⟩ := lvTup er3.fg r3
      refine ⟨b, vs, rfl, SqT.of (er3.gh _ _ ea), fun hw => ?_, fun _ p hp => fin_tup er3 hp (ra.cut o1 o2) (fun hl => (fa (lv_one hl)).2.cut o1 o2) hq⟩
      have same : cut xs o1 o2 = xs := by
        unfold cut
        rw [sIx_eq, sIx_eq, ← ra.length, hw.1, hw.2, ra.length]
        simp
      rw [same] at hq
      refine hq _ _ _ _ er3.refl ?_
      match h9 : lev z.own (.sl a l u) with
      | 0 => exact Rep.tup ea ra
      | k + 1 =>
        have t := fa (lv_one (l := lev z.own a) (by simp only [lev] at h9; rw [h9]; omega))
        exact Rep.lv er3.fg _ (.tup t.1 t.2)
    | str x =>
      refine main sl_str fun d n1 v H1 F1 G1 o1 o2 H3 F3 G3 n3 e1 r1 st er3 h3 => ?_
      rw [h1] at e1
      cases e1
      obtain ⟨r, hr, hq⟩ := h3.lift
      simp only [semSl] at hr
      split at hr <;> cases hr
      rename_i hz
      refine ⟨x, lvStr er3.fg (r1.mono st.ff st.gg), by rw [← line_eq]; exact hz, ?_⟩
      have e : (⟨(cut x.cps.toList o1 o2).toArray⟩ : Str) = cutS x o1 o2 := by
        unfold cut cutS
        rw [sIx_eq, sIx_eq, Array.length_toList]
        rfl
      rw [e] at hq
      exact fin_same er3 (.str _) hq
    | _ =>
      refine main sl_list fun d n1 v H1 F1 G1 o1 o2 H3 F3 G3 n3 e1 r1 st er3 h3 => ?_
      rw [h1] at e1
      cases e1
      exact h3.elim
  | ex c n1 =>
    refine main sl_list fun d n1 v H1 F1 G1 o1 o2 H3 F3 G3 n3 e1 r1 st er3 h3 => ?_
    rw [h1] at e1
    cases e1
  | bad =>
    refine main sl_list fun d n1 v H1 F1 G1 o1 o2 H3 F3 G3 n3 e1 r1 st er3 h3 => ?_
    rw [h1] at e1
    cases e1
end
end L2.Ms

namespace L2.Ms
open PySem PySem.Spec PyProof.Rows Mv

/-! ### what is walked -/
/-- J walks xs, as long as A stands; the items lie in F -/
structure Wk (c : Cn) (J : It) (xs : List D) (A F : Hp) : Prop where
  go : ∀ (i : Nat) (H : Hp), Le A H → i < xs.length → J.go i H
  yld : ∀ (i : Nat) (H : Hp) (x : V) (H' : Hp), Le A H → i < xs.length → J.yld i H x H' → H' = H ∧ ∃ d, xs[i]? = some d ∧ Rep c F x d
  stop : ∀ (i : Nat) (H : Hp), Le A H → xs.length ≤ i → J.stop i H
def PostI (z : Fx) (W : WX) (σ : St) (H F G : Hp) (two : Bool) (o : Out (List D)) (R : It → Hp → Prop) : Prop := match o with
  | .ok xs n' => ∀ J H' F' G', Step z H F G H' F' G' n' → Wk z.toCn J xs (if two = true then F' else G') F' → xs.length ≤ sizeLine → R J H'
  | .ex c n' => ∀ H' F' G', Step z H F G H' F' G' n' → W (.ref (He.ga z.K c)) none σ H'
  | .bad => False
def SI (X : Cx) (z : Fx) (W : WX) (S : Sub) (T : Tab) (mi : MI) (tg it : Expr) : Prop := ∀ {σ : St} {H F G : Hp} {env : Ev} {n : Nat} {R : It → Hp → Prop}, ER z σ H F G env n → PostI z W σ H F G (decide (2 ≤ levI z.own mi)) (evI S T mi env n) R → wI X tg it σ H R
section
variable {X : Cx} {z : Fx} {W : WX} {S : Sub} {T : Tab} {σ : St} {H F G : Hp} {env : Ev} {n : Nat}
theorem wk_list {c : Cn} {K : PySem.W.Frag} {a : Addr} {vs : List V} {ds : List D} {A F : Hp} (e : A a = some (.lst vs)) (r : RepL c F vs ds) : Wk c (Itl K a) ds A F where
  go := fun i H l h => by
    obtain ⟨v, hv, _⟩ := r.get (i := i) (d := ds[i]) (by simp [h])
    exact ⟨vs, v, SqL.of (l _ _ e), hv⟩
  yld := fun i H x H' l _ h => by
    obtain ⟨e1, y⟩ := h
    exact ⟨e1, r.getV (y vs (SqL.of (l _ _ e)))⟩
  stop := fun i H l h => ⟨vs, SqL.of (l _ _ e), by rw [r.length]; exact h⟩
theorem wk_tup {c : Cn} {K : PySem.W.Frag} {a : Addr} {vs : List V} {ds : List D} {A F : Hp} (e : A a = some (.tup vs)) (r : RepL c F vs ds) : Wk c (Itt K a) ds A F where
  go := fun i H l h => by
    obtain ⟨v, hv, _⟩ := r.get (i := i) (d := ds[i]) (by simp [h])
    exact ⟨vs, v, SqT.of (l _ _ e), hv⟩
  yld := fun i H x H' l _ h => by
    obtain ⟨e1, y⟩ := h
    exact ⟨e1, r.getV (y vs (SqT.of (l _ _ e)))⟩
  stop := fun i H l h => ⟨vs, SqT.of (l _ _ e), by rw [r.length]; exact h⟩
theorem wk_range {c : Cn} {A F : Hp} (i : Int) : Wk c (Itr 0 i.toNat) (Mv.range i) A F where
  go := fun k H l h => show k < i.toNat by simpa only [Mv.range, List.length_map, List.length_range] using h
  yld := fun k H x H' l hk h => by
    obtain ⟨e1, e2⟩ := h
    have hk' : k < i.toNat := by simpa only [Mv.range, List.length_map, List.length_range] using hk
    refine ⟨e1, .int (k : Nat), ?_, ?_⟩
    · unfold Mv.range
      rw [List.getElem?_map, List.getElem?_range hk']
      rfl
    · rw [e2, Int.zero_add]
      exact .int _
  stop := fun k H l h => show i.toNat ≤ k by simpa only [Mv.range, List.length_map, List.length_range] using h
theorem wk_str {c : Cn} {A F : Hp} (x : Str) : Wk c (Its x) (x.cps.toList.map fun c => D.str ⟨#[c]⟩) A F where
  go := fun k H l h => show k < x.cps.size by simpa using h
  yld := fun k H v H' l hk h => by
    obtain ⟨e1, c, e2, rfl⟩ := h
    refine ⟨e1, .str ⟨#[c]⟩, ?_, .str _⟩
    rw [List.getElem?_map, Array.getElem?_toList, e2]
    rfl
  stop := fun k H l h => show x.cps.size ≤ k by simpa using h
theorem si_rg {a : ME} {tg e : Expr} {p pos : Pos} (hg : Gl X "range") (hm : X.mg "range" = none) (hn : noStar e = true) (ha : SE X z W S T a e) : SI X z W S T (.rg a) tg (.Call (.Name "range" p) [e] [] pos) := fun {σ H F G env n R} er h => by
  refine (pi_range1 hg hm (pa_cons (peW e) pa_nil (starEach_cons [] _ hn)) (starEach_cons [] _ hn)).w (ha er ?_)
  simp only [evI] at h
  cases h1 : evE S T a env n with
  | ok d n1 =>
    rw [h1] at h
    intro v H1 F1 G1 s1 r1
    cases d with
    | int i =>
      rw [Out.bind_ok] at h
      dsimp only at h
      split at h
      · rename_i hi
        have hl : (line : Nat) = 16777216 := rfl
        refine ⟨i, by rw [lvInt s1.fg r1], hi.2, by omega, h _ _ _ _ s1 (wk_range i) ?_⟩
        have : (Mv.range i).length = i.toNat := by simp [Mv.range]
        rw [this, ← line_eq]
        omega
      · exact h.elim
    | _ => exact h.elim
  | ex c n1 => rw [h1] at h; exact h
  | bad => rw [h1] at h; exact h
theorem pie_list {pins : List (Addr × Obj)} {s1 : Shared} {tg : Expr} {a : Addr} {vs : List V} {R : It → Hp → Prop} (I : Inv X pins σ H s1) (hq : SqL X.K H a vs) (q : R (Itl X.K a) H) : wpAny (model X.prog X.w) X.A (pyIter (.ref a)) (PIE X pins σ tg R) X.xe s1 := by
  obtain ⟨its, _, pl, _⟩ := I.list hq
  refine wpAny_pyIter_list pl.isList ⟨s1.heap.objs.size, [s1.heap.objs.size], _, _, H, rfl, I.kept (t' := s1.toks) fun _ _ e => Heap.get?_push_of_some _ e, turn_list a _, ⟨_, Heap.get?_push_size _ rfl, rfl, rfl⟩, fun b hb => ?_, q⟩
  obtain rfl : b = s1.heap.objs.size := by simpa using hb
  exact I.fpOk (Nat.le_refl _) (I.hok.fresh (Nat.le_refl _))
theorem pie_tup {pins : List (Addr × Obj)} {s1 : Shared} {tg : Expr} {a : Addr} {vs : List V} {R : It → Hp → Prop} (I : Inv X pins σ H s1) (hq : SqT X.K H a vs) (q : R (Itt X.K a) H) : wpAny (model X.prog X.w) X.A (pyIter (.ref a)) (PIE X pins σ tg R) X.xe s1 := by
  obtain ⟨its, _, pl, _⟩ := I.tuple hq
  refine wpAny_pyIter_tuple (show s1.heap.IsTuple a its.toArray from pl) ⟨s1.heap.objs.size, [s1.heap.objs.size], _, _, H, rfl, I.kept (t' := s1.toks) fun _ _ e => Heap.get?_push_of_some _ e, turn_tuple a _, ⟨_, Heap.get?_push_size _ rfl, rfl, rfl⟩, fun b hb => ?_, q⟩
  obtain rfl : b = s1.heap.objs.size := by simpa using hb
  exact I.fpOk (Nat.le_refl _) (I.hok.fresh (Nat.le_refl _))
theorem si_sq {a : ME} {tg e : Expr} (hl : 1 ≤ lev z.own a) (ha : SE X z W S T a e) : SI X z W S T (.sq a) tg e := fun {σ H F G env n R} er h => by
  intro pins s I
  simp only [evI] at h
  refine thn (ha (Q := fun x H1 => ∃ d n1 F1 G1, evE S T a env n = .ok d n1 ∧ Step z H F G H1 F1 G1 n1 ∧ RepLv z.toCn (lev z.own a) F1 G1 x d) er ?_ pins s I) fun v s1 hh => ?_
  · cases h1 : evE S T a env n with
    | ok d n1 => exact fun v H1 F1 G1 st r => ⟨d, n1, F1, G1, rfl, st, r⟩
    | ex c n1 => rw [h1] at h; exact h
    | bad => rw [h1] at h; exact h
  · obtain ⟨x, H1, I1, rx, d, n1, F1, G1, h1, st, r⟩ := hh
    rw [h1] at h
    have er1 := er.step st
    cases d with
    | lst ds =>
      obtain ⟨b, vs, rfl, eb, rb, fb⟩ := lvLst st.fg r
      cases rx
      have hq : SqL X.K H1 b vs := SqL.of (er1.gh _ _ eb)
      obtain ⟨_, _, _, hz⟩ := I1.list hq
      refine pie_list I1 hq (h _ _ _ _ st ?_ (by rw [← (fb hl).length]; exact hz))
      by_cases h2 : 2 ≤ lev z.own a
      · simp only [levI, h2, decide_true, if_true]
        obtain ⟨b', vs', e1, e2, r2⟩ := (r.two h2).lstE
        cases e1
        exact wk_list e2 r2
      · simp only [levI, h2, decide_false, Bool.false_eq_true, if_false]
        exact wk_list eb (fb hl)
    | tup ds =>
      obtain ⟨b, vs, rfl, eb, rb, fb⟩ := lvTup st.fg r
      cases rx
      have hq : SqT X.K H1 b vs := SqT.of (er1.gh _ _ eb)
      obtain ⟨_, _, _, hz⟩ := I1.tuple hq
      refine pie_tup I1 hq (h _ _ _ _ st ?_ (by rw [← (fb hl).2.length]; exact hz))
      by_cases h2 : 2 ≤ lev z.own a
      · simp only [levI, h2, decide_true, if_true]
        exact wk_tup (fb hl).1 (fb hl).2
      · simp only [levI, h2, decide_false, Bool.false_eq_true, if_false]
        exact wk_tup eb (fb hl).2
    | str x =>
      have ex := lvStr st.fg r
      subst ex
      obtain ⟨t, rfl⟩ := rx
      have h : PostI z W σ H F G (decide (2 ≤ levI z.own (.sq a))) (Out.lift (if x.length ≤ line then some (x.cps.toList.map fun c => D.str ⟨#[c]⟩) else none) n1) R := h
      split at h
      · rename_i hz
        have q : R (Its x) H1 := h _ _ _ _ st (wk_str x) (by rw [List.length_map, ← line_eq]; exact hz)
        cases ha : x.cps.all (· < 128)
        · exact wpAny_pyIter_wide ha (pi_one (tk := s1.toks) I1 _ (turn_str _ x t "str_iterator" (.inr rfl)) ⟨_, Heap.get?_push_size _ rfl, rfl, rfl⟩ q)
        · exact wpAny_pyIter_ascii ha (pi_one (tk := s1.toks) I1 _ (turn_str _ x t "str_ascii_iterator" (.inl rfl)) ⟨_, Heap.get?_push_size _ rfl, rfl, rfl⟩ q)
      · exact h.elim
    | _ => exact h.elim

/-! ### targets -/
def gOf (K : PySem.W.Frag) : List Nat → TG
  | [i] => gName i
  | [i, j] => gTup K 2 (gCons (gName i) (gCons (gName j) gNil))
  | [i, j, k] => gTup K 3 (gCons (gName i) (gCons (gName j) (gCons (gName k) gNil)))
  | [i, j, k, l] => gTup K 4 (gCons (gName i) (gCons (gName j) (gCons (gName k) (gCons (gName l) gNil))))
  | _ => fun _ _ _ _ => False
theorem ER.set {i : Nat} {v : V} {d : D} (er : ER z σ H F G env n) (ho : z.own i = 0) (r : Rep z.toCn F v d) : ER z (σ.set i (some v)) H F G (env.set i (some d)) n where
  fg := er.fg
  gh := er.gh
  h0 := er.h0
  tw := er.tw
  val := fun j e he hj => by
    by_cases q : i = j
    · subst q
      have hlt : i < env.length := by
        have := (List.getElem?_eq_some_iff.mp he).1
        simpa using this
      rw [List.getElem?_set_self hlt] at he
      simp only [Option.some.injEq] at he
      subst he
      exact ⟨v, by rw [List.getElem?_set_self (by rw [← er.len]; exact hlt)], r⟩
    · rw [List.getElem?_set_ne q] at he ⊢
      exact er.val j e he hj
  ow := fun j e he hj => by
    have q : i ≠ j := fun q => by subst q; rw [ho] at hj; cases hj
    rw [List.getElem?_set_ne q] at he ⊢
    exact er.ow j e he hj
  ow2 := fun j e he hj => by
    have q : i ≠ j := fun q => by subst q; rw [ho] at hj; cases hj
    rw [List.getElem?_set_ne q] at he ⊢
    exact er.ow2 j e he hj
  dis := fun j k d' e p p' a hne hj hk h1 h2 h3 h4 => by
    have q1 : i ≠ j := fun q => by subst q; exact hj ho
    have q2 : i ≠ k := fun q => by subst q; exact hk ho
    rw [List.getElem?_set_ne q1] at h1 h3
    rw [List.getElem?_set_ne q2] at h2 h4
    exact er.dis j k d' e p p' a hne hj hk h1 h2 h3 h4
  len := by simp [er.len]
theorem gOf_ok (hK : X.K = z.K) {tg : List Nat} {v : V} {d : D} {env1 : Ev} {Q : St → Hp → Prop} (er : ER z σ H F G env n) (ho : ∀ i ∈ tg, z.own i = 0) (r : Rep z.toCn F v d) (hb : bindT tg d env = some env1) (hq : ∀ σ1, ER z σ1 H F G env1 n → (∀ i, i ∉ tg → σ1[i]? = σ[i]?) → σ1.length = σ.length → Q σ1 H) :
    gOf X.K tg v σ H Q := by
  unfold bindT at hb
  split at hb
  · rename_i i
    cases hb
    exact hq _ (er.set (ho i (by simp)) r) (fun j hj => List.getElem?_set_ne (fun q => hj (by simp [q]))) (by simp)
  · rename_i i j
    split at hb
    · rename_i x y
      cases hb
      obtain ⟨a, vs, rfl, ea, ra⟩ := r.tupE
      cases ra with
      | cons rx t =>
        cases t with
        | cons ry t =>
          cases t
          refine ⟨a, _, rfl, SqT.of (er.fg.trans er.gh _ _ ea), rfl, _, _, rfl, _, _, rfl, rfl, ?_⟩
          exact hq _ ((er.set (ho i (by simp)) rx).set (ho j (by simp)) ry) (fun k hk => by
            simp only [List.mem_cons, List.not_mem_nil, or_false, not_or] at hk
            rw [List.getElem?_set_ne (fun q => hk.2 q.symm), List.getElem?_set_ne (fun q => hk.1 q.symm)]) (by simp)
    · cases hb
  · rename_i i j k
    split at hb
    · rename_i x y w
      cases hb
      obtain ⟨a, vs, rfl, ea, ra⟩ := r.tupE
      cases ra with
      | cons rx t =>
        cases t with
        | cons ry t =>
          cases t with
          | cons rz t =>
            cases t
            refine ⟨a, _, rfl, SqT.of (er.fg.trans er.gh _ _ ea), rfl, _, _, rfl, _, _, rfl, _, _, rfl, rfl, ?_⟩
            exact hq _ (((er.set (ho i (by simp)) rx).set (ho j (by simp)) ry).set (ho k (by simp)) rz) (fun m hk => by
              simp only [List.mem_cons, List.not_mem_nil, or_false, not_or] at hk
              rw [List.getElem?_set_ne (fun q => hk.2.2 q.symm), List.getElem?_set_ne (fun q => hk.2.1 q.symm), List.getElem?_set_ne (fun q => hk.1 q.symm)]) (by simp)
    · cases hb
  · rename_i i j k l
    split at hb
    · rename_i x y w t
      cases hb
      obtain ⟨a, vs, rfl, ea, ra⟩ := r.tupE
      cases ra with
      | cons rx u =>
        cases u with
        | cons ry u =>
          cases u with
          | cons rz u =>
            cases u with
            | cons rt u =>
              cases u
              refine ⟨a, _, rfl, SqT.of (er.fg.trans er.gh _ _ ea), rfl, _, _, rfl, _, _, rfl, _, _, rfl, _, _, rfl, rfl, ?_⟩
              exact hq _ ((((er.set (ho i (by simp)) rx).set (ho j (by simp)) ry).set (ho k (by simp)) rz).set (ho l (by simp)) rt) (fun m hk => by
                simp only [List.mem_cons, List.not_mem_nil, or_false, not_or] at hk
                rw [List.getElem?_set_ne (fun q => hk.2.2.2 q.symm), List.getElem?_set_ne (fun q => hk.2.2.1 q.symm), List.getElem?_set_ne (fun q => hk.2.1 q.symm), List.getElem?_set_ne (fun q => hk.1 q.symm)]) (by simp)
    · cases hb
  · cases hb
/-! ### walks of dicts, ranges from a number on -/
theorem wk_range2 {c : Cn} {A F : Hp} (i j : Int) : Wk c (Itr i (j - i).toNat) (Mv.range2 i j) A F where
  go := fun k H l h => show k < (j - i).toNat by simpa only [Mv.range2, List.length_map, List.length_range] using h
  yld := fun k H x H' l hk h => by
    obtain ⟨e1, e2⟩ := h
    have hk' : k < (j - i).toNat := by simpa only [Mv.range2, List.length_map, List.length_range] using hk
    refine ⟨e1, .int (i + (k : Nat)), ?_, ?_⟩
    · unfold Mv.range2
      rw [List.getElem?_map, List.getElem?_range hk']
      rfl
    · rw [e2]
      exact .int _
  stop := fun k H l h => show (j - i).toNat ≤ k by simpa only [Mv.range2, List.length_map, List.length_range] using h
theorem si_rg2 {a b : ME} {tg e1 e2 : Expr} {p pos : Pos} (hg : Gl X "range") (hm : X.mg "range" = none) (hn : noStar e1 = true) (hn2 : noStar e2 = true) (ha : SE X z W S T a e1) (hb : SE X z W S T b e2) : SI X z W S T (.rg2 a b) tg (.Call (.Name "range" p) [e1, e2] [] pos) := fun {σ H F G env n R} er h => by
  refine (pi_range2 hg hm (pa_cons (peW e1) (pa_cons (peW e2) pa_nil (starEach_cons [] _ hn2)) (starEach_cons [e2] _ hn)) (by rw [starEach_cons [e2] _ hn, starEach_cons [] _ hn2]; rfl) (starEach_cons [] _ hn2)).w (ha er ?_)
  simp only [evI] at h
  cases h1 : evE S T a env n with
  | ok d n1 =>
    rw [h1, Out.bind_ok] at h
    intro v H1 F1 G1 s1 r1
    refine hb (er.step s1) ?_
    cases h2 : evE S T b env n1 with
    | ok e n2 =>
      rw [h2, Out.bind_ok] at h
      intro v2 H2 F2 G2 s2 r2
      cases d with
      | int i =>
        cases e with
        | int j =>
          dsimp only at h
          split at h
          · rename_i hi
            have hl : (line : Nat) = 16777216 := rfl
            refine ⟨i, j, by rw [lvInt s1.fg r1, lvInt s2.fg r2], by omega, h _ _ _ _ (s1.trans s2) (wk_range2 i j) ?_⟩
            have : (Mv.range2 i j).length = (j - i).toNat := by simp [Mv.range2]
            rw [this, ← line_eq]
            omega
          · exact h.elim
        | _ => exact h.elim
      | _ => exact h.elim
    | ex c n2 => rw [h2] at h; exact fun H2 F2 G2 s2 => h H2 F2 G2 (s1.trans s2)
    | bad => rw [h2] at h; exact h
  | ex c n1 => rw [h1] at h; exact h
  | bad => rw [h1] at h; exact h
theorem RepK.at {c : Cn} {F : Hp} : ∀ {kvs : List (Key × V)} {ds : List (D × D)} {i : Nat}, RepK c F kvs ds → ∀ {k : Key} {v : V}, kvs[i]? = some (k, v) → ∃ d, ds[i]? = some (kD k, d) ∧ Rep c F v d
  | _, _, i, .nil, k, v, h => by simp at h
  | _, _, 0, .cons hk hv t, k, v, h => by
    simp at h
    obtain ⟨rfl, rfl⟩ := h
    have e := Rep.kV hk
    subst e
    exact ⟨_, rfl, hv⟩
  | _, _, i + 1, .cons hk hv t, k, v, h => by
    obtain ⟨d, h1, h2⟩ := RepK.at t (by simpa using h)
    exact ⟨d, by simpa using h1, h2⟩
theorem wk_keys {c : Cn} {a : Addr} {o : Obj} {kvs : List (Key × V)} {ds : List (D × D)} {A F : Hp} (e : A a = some (.frz o (.dK kvs))) (r : RepK c F kvs ds) : Wk c (Itk a o kvs) (ds.map (·.1)) A F where
  go := fun i H l h => by
    rw [List.length_map, ← r.length] at h
    exact ⟨l _ _ e, h⟩
  yld := fun i H x H' l hi h => by
    obtain ⟨e1, k, v, hk, rfl⟩ := h
    obtain ⟨d, h1, _⟩ := r.at hk
    exact ⟨e1, kD k, by rw [List.getElem?_map, h1]; rfl, rep_key k⟩
  stop := fun i H l h => ⟨l _ _ e, by rw [List.length_map, ← r.length] at h; exact h⟩
theorem wk_vals {c : Cn} {a : Addr} {o : Obj} {kvs : List (Key × V)} {ds : List (D × D)} {A F : Hp} (e : A a = some (.frz o (.dK kvs))) (r : RepK c F kvs ds) : Wk c (Itd a o kvs) (ds.map (·.2)) A F where
  go := fun i H l h => by
    rw [List.length_map, ← r.length] at h
    exact ⟨l _ _ e, h⟩
  yld := fun i H x H' l hi h => by
    obtain ⟨e1, k, hk⟩ := h
    obtain ⟨d, h1, h2⟩ := r.at hk
    exact ⟨e1, d, by rw [List.getElem?_map, h1]; rfl, h2⟩
  stop := fun i H l h => ⟨l _ _ e, by rw [List.length_map, ← r.length] at h; exact h⟩
theorem si_ks {a : ME} {tg e : Expr} {apos pos : Pos} (hbase : attributeBase e "keys" X.env (eval e X.env) = eval e X.env) (hline : (apos.endLine == pos.line) = true) (hl : 1 ≤ lev z.own a) (ha : SE X z W S T a e) : SI X z W S T (.ks a) tg (.Call (.Attribute e "keys" apos) [] [] pos) := fun {σ H F G env n R} er h => by
  refine (pi_keysM (peW e) hbase hline).w (ha er ?_)
  simp only [evI] at h
  cases h1 : evE S T a env n with
  | ok d n1 =>
    rw [h1, Out.bind_ok] at h
    intro v H1 F1 G1 s1 r1
    cases d with
    | fdk ds =>
      dsimp only at h
      split at h
      rotate_left
      · exact h.elim
      rename_i hz
      have r2 : Rep z.toCn F1 v (.fdk ds) := r1.i s1.fg hl
      cases r2 with
      | fdk e0 r =>
        refine ⟨_, _, _, rfl, (s1.fg.trans s1.gh) _ _ e0, h _ _ _ _ s1 (wk_keys ?_ r) ?_⟩
        · split
          · exact e0
          · exact s1.fg _ _ e0
        · rw [List.length_map]
          rw [← line_eq]; exact hz
    | _ => exact h.elim
  | ex c n1 => rw [h1] at h; exact h
  | bad => rw [h1] at h; exact h

theorem si_vs {a : ME} {tg e : Expr} {apos pos : Pos} (hbase : attributeBase e "values" X.env (eval e X.env) = eval e X.env) (hline : (apos.endLine == pos.line) = true) (hl : 1 ≤ lev z.own a) (ha : SE X z W S T a e) : SI X z W S T (.vs a) tg (.Call (.Attribute e "values" apos) [] [] pos) := fun {σ H F G env n R} er h => by
  refine (pi_values (peW e) hbase hline).w (ha er ?_)
  simp only [evI] at h
  cases h1 : evE S T a env n with
  | ok d n1 =>
    rw [h1, Out.bind_ok] at h
    intro v H1 F1 G1 s1 r1
    cases d with
    | fdk ds =>
      dsimp only at h
      split at h
      rotate_left
      · exact h.elim
      rename_i hz
      have r2 : Rep z.toCn F1 v (.fdk ds) := r1.i s1.fg hl
      cases r2 with
      | fdk e0 r =>
        refine ⟨_, _, _, rfl, (s1.fg.trans s1.gh) _ _ e0, h _ _ _ _ s1 (wk_vals ?_ r) ?_⟩
        · split
          · exact e0
          · exact s1.fg _ _ e0
        · rw [List.length_map]
          rw [← line_eq]; exact hz
    | _ => exact h.elim
  | ex c n1 => rw [h1] at h; exact h
  | bad => rw [h1] at h; exact h

end
end L2.Ms

/-! # Msk2: d.get(k, x), list(d.keys()), sorted(d.keys()) -/
namespace L2.Ms
open PySem PySem.Spec PyProof.Rows Mv
/-! ### tuples are told -/
/-- the tuples alone -/
def tupO (F : Hp) : Hp := fun a => match F a with
  | some (.tup xs) => some (.tup xs)
  | _ => none
theorem tupO_of {F : Hp} {a : Addr} {xs : List V} (h : F a = some (.tup xs)) : tupO F a = some (.tup xs) := by unfold tupO; rw [h]
theorem tupO_some {F : Hp} {a : Addr} {o : HO} (h : tupO F a = some o) : ∃ xs, o = .tup xs ∧ F a = some (.tup xs) := by
  unfold tupO at h
  split at h
  · rename_i xs q
    cases h
    exact ⟨xs, rfl, q⟩
  · cases h
theorem tupO_le {F : Hp} : Le (tupO F) F := fun a o h => by
  obtain ⟨xs, rfl, q⟩ := tupO_some h
  exact q
theorem tupO_mut {F : Hp} {a : Addr} {o : HO} (h : tupO F a = some o) : ¬ Mut (some o) := fun m => by
  obtain ⟨ys, q, _⟩ := tupO_some h
  subst q; exact m
theorem tupO_lst {F : Hp} {a : Addr} {xs : List V} : tupO F a ≠ some (.lst xs) := fun h => by
  obtain ⟨ys, q, _⟩ := tupO_some h
  cases q
theorem Step.tellT {z : Fx} {H F G H' F' G' : Hp} {n' : Nat} (s : Step z H F G H' F' G' n') : Step z H F G H' (un F' (tupO H')) (un G' (tupO H')) n' where
  ff := s.ff.trans un_left
  gg := s.gg.trans un_left
  fg := un_le (s.fg.trans un_left) (un_right s.gh tupO_le)
  gh := un_le s.gh tupO_le
  nf := fun a h => (un_none h).elim (s.nf a) fun q => by
    cases e : tupO H' a with
    | none => exact absurd e q
    | some o =>
      obtain ⟨xs, _, w⟩ := tupO_some e
      exact .inr (s.fr (.inr ⟨xs, w⟩))
  ng := fun a h => (un_none h).elim (s.ng a) fun q => by
    cases e : tupO H' a with
    | none => exact absurd e q
    | some o =>
      obtain ⟨xs, _, w⟩ := tupO_some e
      exact .inr (s.fr (.inr ⟨xs, w⟩))
  kp := s.kp
  h0 := s.h0
  dom := s.dom
  tw := fun a q => by
    obtain ⟨x, y, w⟩ := s.tw a q
    refine ⟨x, Classical.byContradiction fun h => ?_, w⟩
    rcases un_none h with h | h
    · exact h y
    · cases e : tupO H' a with
      | none => exact h e
      | some o =>
        obtain ⟨xs, _, w⟩ := tupO_some e
        rw [x] at w; cases w
/-! ### d.get(k, x) -/
section
variable {X : Cx} {z : Fx} {W : WX} {S : Sub} {T : Tab}
theorem attrBase_any {o : Expr} {name : Str} {env : Env} (h : (match o with | .Call _ [] _ _ => false | _ => true) = true) : attributeBase o name env (eval o env) = eval o env := by
  cases o with
  | Call f es ks p =>
    cases es with
    | nil => simp at h
    | cons e es => cases f <;> rfl
  | _ => rfl
theorem se_dge {a k x : ME} {o e f : Expr} {apos pos : Pos} (hu : X.A.units + 1 < cLine) (hn : noStar e = true) (hn2 : noStar f = true) (hbase : attributeBase o "get" X.env (eval o X.env) = eval o X.env) (hline : (apos.endLine == pos.line) = true)
    (ha : SE X z W S T a o) (hk : SE X z W S T k e) (hx : SE X z W S T x f) : SE X z W S T (.dge a k x) (.Call (.Attribute o "get" apos) [e, f] [] pos) := fun {σ H F G env n Q} er h => by
  have hst : starEach [e, f] X.env = [(false, eval e X.env), (false, eval f X.env)] := by rw [starEach_cons [f] _ hn, starEach_cons [] _ hn2]; rfl
  refine (pe_dget2 hu (peW o) (peW e) (peW f) ⟨hbase, by rw [hst]; rfl, hline, by rw [hst]; rfl⟩).w (ha.use er (by simpa only [evE] using h) fun d n1 v H1 F1 G1 _ s1 er1 r1 h1 => ?_)
  split at h1
  rotate_left
  · exact h1.elim
  rename_i hd
  have isd : ∃ b, v = .ref b ∧ IsD H1 b := by
    cases d <;> first | (simp [isDic] at hd; done) | skip
    · obtain ⟨b, kvs, e, w, _⟩ := lvK er1.fg (.inl rfl) r1
      exact ⟨b, e, .inl ⟨kvs, w.mono er1.gh⟩⟩
    · obtain ⟨b, kvs, e, w, _⟩ := lvT er1.fg (.inl rfl) r1
      exact ⟨b, e, .inr ⟨kvs, w.mono er1.gh⟩⟩
    · obtain ⟨b, kvs, e, w, _⟩ := lvK er1.fg (.inr rfl) r1
      exact ⟨b, e, .inl ⟨kvs, w.mono er1.gh⟩⟩
    · obtain ⟨b, kvs, e, w, _⟩ := lvT er1.fg (.inr rfl) r1
      exact ⟨b, e, .inr ⟨kvs, w.mono er1.gh⟩⟩
  obtain ⟨b, rfl, hb⟩ := isd
  refine ⟨b, rfl, hb, hk.use er1 h1 fun d2 n2 v2 H2 F2 G2 _ s2 er2 r2 h2 => hx.use er2 h2 fun d3 n3 v3 H3 F3 G3 _ s3 er3 r3 h3 => ?_⟩
  obtain ⟨r, hr, hq⟩ := h3.lift
  obtain ⟨kvs, hdo, rfl⟩ := Option.map_eq_some_iff.mp hr
  have r1' := (r1.mono s2.ff s2.gg).mono s3.ff s3.gg
  have r2' := r2.mono s3.ff s3.gg
  obtain ⟨a', o, e1, g, _, ro, rf⟩ := dget_ok er3.fg er3.gh hdo r1' r2'
  cases e1
  refine ⟨o, g, hq _ _ _ _ er3.refl ?_⟩
  simp only [lev]
  split
  · rename_i hl
    exact Rep.lv er3.fg _ ((rf hl.1).getD (r3.two hl.2))
  · exact ro.getD (r3.g er3.fg)
/-! ### d.keys(), a view -/
def keysO (p d : Addr) : HO := .ext fun h => PySem.W.KdlKeysView h p d
theorem keysO_ok {P : Program} {w : World} {H : Hp} {h : Heap} {p d : Addr} (e : h.get? p = some { cls := .type "dict_keys", data := .fields #[.ref d] }) : ObjOk P w H h p (keysO p d) :=
  ⟨⟨_, e, rfl, rfl⟩, ⟨_, e⟩, fun h1 h2 x k => let ⟨o, ho, r⟩ := x; ⟨o, k o ho, r⟩⟩
def tKeysV (td : TE) : TE := fun σ H Q => td σ H fun x H1 => ∃ (d : Addr) (kvs : List (List Key × V)), x = .ref d ∧ Rd H1 d (.dT kvs) ∧ ∀ p, H1 p = none → Q (.ref p) (upd H1 p (keysO p d))
theorem pe_keysV {e : Expr} {td : TE} {apos cpos : Pos} (he : PE X e td) (hbase : attributeBase e "keys" X.env (eval e X.env) = eval e X.env) (hline : (apos.endLine == cpos.line) = true) : PE X (.Call (.Attribute e "keys" apos) [] [] cpos) (tKeysV td) := by
  refine ⟨fun pins s σ H Q I h => ?_⟩
  refine wpAny_Call_method (T := "dict") (id := "dict.keys") hbase rfl hline F.plainAttrs_dict F.slot_dict_keys F.type_dict_keys (thn (he.run pins s σ H _ I h) fun u s1 hh => ?_)
  obtain ⟨x, H1, I1, rx, d, kvs, rfl, hd, q⟩ := hh
  obtain rfl : u = Value.ref d := rx
  obtain ⟨_, hs, xs, _, o, es, ep, ho, hx, hdat, _⟩ := dt_rd I1.hok hd
  have raw : s1.heap.DictRaw d es ep := ⟨o, ho, hx, hdat⟩
  refine ⟨raw.typeIs, fun b q => by cases q; exact ⟨o, ho, hx.2.1⟩, ?_⟩
  show wpAny _ _ (callWith cpos (.builtin "dict.keys") [.ref d] [] []) _ X.xe s1
  refine method_meetsIn F.slot_dict_keys F.entry_dict_keys rfl (PySem.evalArgs_none ⟨rfl, raw.typeIs, F.args_dict_keys_1 _, _, meets_dict_keys_raw d hs, ⟨es, ep, raw⟩, ?_⟩)
  exact ⟨.ref s1.heap.objs.size, upd H1 s1.heap.objs.size (keysO s1.heap.objs.size d), I1.laid (t' := s1.toks) (fun b u e => Heap.get?_push_of_some _ e) (Nat.le_refl _) (keysO_ok (Heap.get?_push_size _ rfl)), rfl, q _ (I1.hok.fresh (Nat.le_refl _))⟩
/-- vs are the keys' own tuples -/
def KeysV (H : Hp) (kvs : List (List Key × V)) (vs : List V) : Prop := Paired (fun v kv => ∃ q, v = .ref q ∧ H q = some (.tup (kv.1.map kV))) vs kvs
theorem keysV_of {H : Hp} {kvs : List (List Key × V)} {xs : List (List Key × Addr × Value)} (r : KT H kvs xs) : KeysV H kvs (xs.map fun x => V.ref x.2.1) := by
  unfold KeysV
  induction r with
  | nil => exact .nil
  | cons h t ih => exact .cons ⟨_, rfl, h.2.1⟩ ih
theorem vals_keys {h : Heap} {es : Array DictEntry} {xs : List (List Key × Addr × Value)} {acc : Array Value} {knd : HeapKind X.prog X.w (List Key)} (he : es.toList = xs.map (entryOfKey knd)) (hacc : ItemsOf (fun i v => ∃ hi : i < es.size, v = es[i].key) acc es.size) :
    Vals (xs.map fun x => V.ref x.2.1) acc.toList ∧ acc.toList = xs.map fun x => Value.ref x.2.1 := by
  have e2 : acc.toList = xs.map fun x => Value.ref x.2.1 := by
    apply List.ext_getElem?
    intro j
    rw [List.getElem?_map]
    have hs : es.size = xs.length := size_of_entries he
    cases hj : acc[j]? with
    | none =>
      have : acc.size ≤ j := Array.getElem?_eq_none_iff.mp hj
      rw [Array.getElem?_toList, hj, List.getElem?_eq_none (by rw [← hs, ← hacc.1]; exact this)]
      rfl
    | some v =>
      obtain ⟨hi, rfl⟩ := hacc.2 j v hj
      have hx : j < xs.length := by rw [← hs]; exact hi
      have h3 : es.toList[j]? = some es[j] := by rw [Array.getElem?_toList, Array.getElem?_eq_getElem hi]
      rw [he, List.getElem?_map, List.getElem?_eq_getElem hx] at h3
      rw [Array.getElem?_toList, hj, List.getElem?_eq_getElem hx]
      have h4 : entryOfKey knd xs[j] = es[j] := by simpa using h3
      rw [← h4]
      rfl
  refine ⟨?_, e2⟩
  rw [e2]
  clear e2 he
  induction xs with
  | nil => exact .nil
  | cons x r ih => exact .cons rfl ih
def rListKeys : List V → Hp → VK → Prop := fun xs H Q => ∃ (p d : Addr) (kvs : List (List Key × V)), xs = [.ref p] ∧ H p = some (keysO p d) ∧ Rd H d (.dT kvs) ∧ ∀ l vs, H l = none → KeysV H kvs vs → Q (.ref l) (upd H l (.lst vs))
theorem cr_listKeys (hc : X.calm = true) : CallR X (.type "list") rListKeys := by
  intro pins s σ H xs us Q I r h
  obtain ⟨p, d, kvs, rfl, hp, hd, q⟩ := h
  obtain rfl := Vals.ref1 r
  have view : PySem.W.KdlKeysView s.heap p d := (show ObjOk X.prog X.w H s.heap p (keysO p d) from I.hok p _ hp).1
  obtain ⟨hz, hs, xs, rel, o, es, ep, ho, hx, hdat, hes, his, hn⟩ := dt_rd I.hok hd
  have hl : es.size = xs.length := size_of_entries hes
  have hl2 : kvs.length = xs.length := Paired.length rel
  refine PySem.W.kdl_call (PySem.KdlSrc.rawKeys (r := p) (d := d) (es := es) (ep := ep)) (I.ok.hd hc) ⟨view, ⟨o, ho, hx, hdat⟩⟩ (by rw [hl, ← hl2]; exact hz) fun h' tk acc c hk hD hacc => ?_
  obtain ⟨rv, _⟩ := vals_keys (X := X) (h := s.heap) hes hacc
  have hlen : (xs.map fun x => V.ref x.2.1).length ≤ sizeLine := by rw [List.length_map, ← hl2]; exact hz
  exact ⟨.ref s.heap.objs.size, upd H s.heap.objs.size (.lst (xs.map fun x => V.ref x.2.1)), I.laid (t' := tk) hk (Nat.le_refl _) ⟨hlen, acc.toList, c, rv, by rw [Array.toArray_toList]; exact hD⟩, rfl, q _ _ (I.hok.fresh (Nat.le_refl _)) (keysV_of rel)⟩
/-! ### sorted(d.keys()) -/
/-- the items gathered in a new list, which is sorted -/
theorem sorted_src {prog : Program} {w : World} {A : Around} {E : Value → Shared → Prop} {s : Shared} {T : String} {r d : Addr} {n : Nat} {P : Nat → Value → Prop} {OK : Heap → Prop} {Q : Value → Shared → Prop} (K : PySem.W.KdlSrc prog w T r d n P OK) (hh : A.handled = none) (hok : OK s.heap) (hn : n ≤ sizeLine)
    (h : ∀ (h' : Heap) (tk : Nat) (acc : Array Value), (∀ b o, s.heap.get? b = some o → h'.get? b = some o) → ItemsOf P acc n →
      wpAny (model prog w) A.in1 (call (.builtin "list.sort") [.ref h'.objs.size]) (fun _ s' => Q (.ref h'.objs.size) s') E { s with heap := h'.push { cls := .type "list", data := .seq acc.toList.toArray }, toks := tk }) :
    wpAny (model prog w) A (call (.builtin "sorted") [.ref r]) Q E s := by
  refine Calls.call_function_entry PyProof.Rows.kind_sorted PyProof.Rows.plain_sorted PyProof.Rows.entry_sorted (PyProof.Rows.args_sorted1 _) ?_
  unfold Builtin.«sorted»
  refine wpAny_bind (wpAny_pure (wpAny_bind (PySem.W.kdu_collect (A := A.in1) K hh hok hn fun h' tk acc hk hacc => ?_)))
  refine wpAny_bind (wpAny_newList ?_ (by rw [Array.length_toList, hacc.1]; exact hn))
  exact wpAny_bind (wpAny_holding (wpAny_mono (h h' tk acc hk hacc) (fun _ s' x => wpAny_pure ⟨_, rfl, x⟩) fun _ _ e => e))
def rSortKeys (K : PySem.W.Frag) : List V → Hp → VK → Prop := fun xs H Q => ∃ (p d : Addr) (kvs : List (List Key × V)), xs = [.ref p] ∧ H p = some (keysO p d) ∧ Rd H d (.dT kvs) ∧
  ∀ vs, KeysV H kvs vs → ∃ bs : List (V × D), bs.map Prod.fst = vs ∧ (∀ b ∈ bs, Dp K H b.1 (toPy b.2)) ∧ PySem.W.AllAlike (bs.map fun b => toPy b.2) ∧ PySem.W.Sortable (bs.map fun b => toPy b.2) ∧ (∀ b ∈ bs, (toPy b.2).depth ≤ 60) ∧
    ∀ l, H l = none → Q (.ref l) (upd H l (.lst ((bs.mergeSort (PySem.W.dataLe false fun b => toPy b.2)).map Prod.fst)))
theorem cr_sortKeys (hc : X.calm = true) (hu : X.A.units + 64 < cLine) : CallR X (.builtin "sorted") (rSortKeys X.K) := by
  intro pins s σ H xs us Q I r h
  obtain ⟨p, d, kvs, rfl, hp, hd, q⟩ := h
  obtain rfl := Vals.ref1 r
  have view : PySem.W.KdlKeysView s.heap p d := (show ObjOk X.prog X.w H s.heap p (keysO p d) from I.hok p _ hp).1
  obtain ⟨hz, hs, xs, rel, o, es, ep, ho, hx, hdat, hes, his, hn⟩ := dt_rd I.hok hd
  have hl : es.size = xs.length := size_of_entries hes
  have hl2 : kvs.length = xs.length := Paired.length rel
  obtain ⟨bs, eb, hdp, hal, hk, hdep, q⟩ := q _ (keysV_of rel)
  refine sorted_src (PySem.KdlSrc.rawKeys (r := p) (d := d) (es := es) (ep := ep)) (I.ok.hd hc) ⟨view, ⟨o, ho, hx, hdat⟩⟩ (by rw [hl, ← hl2]; exact hz) fun h' tk acc hkeep hacc => ?_
  obtain ⟨rv, ev⟩ := vals_keys (X := X) (h := s.heap) hes hacc
  rw [← eb] at rv
  have hb : bs.length ≤ sizeLine := by
    have e := congrArg List.length eb
    rw [List.length_map, List.length_map] at e
    omega
  have hob : (h'.push { cls := .type "list", data := .seq acc.toList.toArray }).get? h'.objs.size = some (seqObj "list" acc.toList.toArray 0) := Heap.get?_push_size _ rfl
  have kb : ∀ b o, s.heap.get? b = some o → (h'.push { cls := .type "list", data := .seq acc.toList.toArray }).get? b = some o := fun b o e => Heap.get?_push_of_some _ (hkeep b o e)
  have I1 : Inv X pins σ H { s with heap := h', toks := tk } := I.kept (t' := tk) hkeep
  have hf : H h'.objs.size = none := I1.hok.fresh (Nat.le_refl _)
  have ka : ∀ b o, h'.get? b = some o → (h'.push { cls := .type "list", data := .seq acc.toList.toArray }).get? b = some o := fun b o e => Heap.get?_push_of_some _ e
  have reads := each_reads I1 hdp rv
  have er : PySem.W.EachIs (fun (v : Value) (b : V × D) => ∃ as, Reads (h'.push { cls := .type "list", data := .seq acc.toList.toArray }) v (toPy b.2) as ∧ h'.objs.size ∉ as) acc.toList bs := reads.mono fun v b ⟨as, r⟩ =>
    ⟨as, PyProof.Rows.Reads.keeps ka r, fun hm => by
      obtain ⟨o, e⟩ := PyProof.On.reads_mem_get r _ hm
      exact Nat.lt_irrefl _ (Heap.lt_size e)⟩
  refine PySem.W.list_sort_data (s := { s with heap := h'.push { cls := .type "list", data := .seq acc.toList.toArray }, toks := tk }) (R := fun (v : Value) (b : V × D) => RelV b.1 v) (enc := fun b : V × D => toPy b.2) hob (each_vals rv) er hal hk hb (fun b hb => by have := hdep b hb; show X.A.units + 1 + 1 + (toPy b.2).depth < cLine; omega) fun out ho eo => ?_
  obtain ⟨eF, heF⟩ := PyProof.Rows.sortedHeap_at (vs := acc.toList) (out := List.toArray out) hob
  have hlen : ((bs.mergeSort (PySem.W.dataLe false fun b => toPy b.2)).map Prod.fst).length ≤ sizeLine := by
    rw [List.length_map, List.length_mergeSort]; exact hb
  exact ⟨.ref h'.objs.size, upd H h'.objs.size (.lst ((bs.mergeSort (PySem.W.dataLe false fun b => toPy b.2)).map Prod.fst)), I1.laid (t' := tk) (fun b o e => (PyProof.Rows.sortedHeap_old (Nat.ne_of_lt (Heap.lt_size e)) (Heap.lt_size (ka b o e))).trans (ka b o e)) (Nat.le_refl _) ⟨hlen, out, eF, vals_each eo, heF⟩, rfl, q _ hf⟩
theorem repL_keysV {c : Cn} {F F2 H2 : Hp} : ∀ {kvs : List (List Key × V)} {ds : List (D × D)} {vs : List V}, RepT c F kvs ds → KeysV H2 kvs vs → (∀ q xs, H2 q = some (.tup xs) → F2 q = some (.tup xs)) → RepL c F2 vs (ds.map (·.1))
  | _, _, _, .nil, k, _ => by cases k; exact .nil
  | _, _, _, .cons hk _ _ t, k, l => by
    have e := RepL.kV hk
    subst e
    cases k with
    | cons h r =>
      obtain ⟨q, rfl, w⟩ := h
      exact .cons (.tup (l _ _ w) (repL_keys _)) (repL_keysV t r l)
/-- the heap behind: the view, the list -/
theorem keys_fin {σ : St} {H F G : Hp} {env : Ev} {n : Nat} {Q : VK} {lv : Nat} {p d l : Addr} {us : List V} {es : List D} (er : ER z σ H F G env n) (hp : H p = none) (hl : (upd H p (keysO p d)) l = none)
    (ru : ∀ F2 : Hp, (∀ q xs, (upd H p (keysO p d)) q = some (.tup xs) → F2 q = some (.tup xs)) → RepL z.toCn F2 us es)
    (hq : ∀ v H' F' G', Step z H F G H' F' G' n → RepLv z.toCn lv F' G' v (.lst es) → Q v H') : Q (.ref l) (upd (upd H p (keysO p d)) l (.lst us)) := by
  have s0 := er.refl.newH er.dom0 (o := keysO p d) hp
  have s1 := s0.tellT
  have e1 := er.step s1
  have s2 := s1.newF e1.dom0 (o := .lst us) hl
  refine hq _ _ _ _ s2 (Rep.lv s2.fg _ (.lst upd_same ((ru _ fun q xs e => ?_).mono (Le.grow (e1.fg.non (e1.gh.non hl))))))
  exact un_right (er.fg.trans (er.gh.trans (Le.grow hp))) tupO_le _ _ (tupO_of e)
theorem se_kys {a : ME} {o : Expr} {p apos cpos pos : Pos} (hc : X.calm = true) (hg : Gl X "list") (hm : X.mg "list" = none) (hbase : attributeBase o "keys" X.env (eval o X.env) = eval o X.env) (hline : (apos.endLine == cpos.line) = true) (ha : SE X z W S T a o) :
    SE X z W S T (.p1 .kys a) (.Call (.Name "list" p) [.Call (.Attribute o "keys" apos) [] [] cpos] [] pos) := fun {σ H F G env n Q} er h => by
  refine (pe_callTy (cr_listKeys hc) hg hm (by decide +kernel) (pa_cons (pe_keysV (peW o) hbase hline) pa_nil (starEach_cons [] _ rfl)) (by decide) (by decide) (starEach_cons [] _ rfl) rfl).w (ha.use er h fun d n1 v H1 F1 G1 _ s1 er1 r1 h1 => ?_)
  obtain ⟨r, hr, hq⟩ := h1.lift
  cases d with
  | dit ds =>
    cases hr
    obtain ⟨b, kvs, rfl, e, ra, _⟩ := lvT er1.fg (.inl rfl) r1
    refine ⟨b, kvs, rfl, e.mono er1.gh, fun q hq0 => ⟨q, b, kvs, rfl, upd_same, (e.mono er1.gh).mono (Le.grow hq0), fun l vs hl hk => ?_⟩⟩
    exact keys_fin er1 hq0 hl (fun F2 w => repL_keysV ra hk w) hq
  | _ => cases hr
theorem se_skys {a : ME} {o : Expr} {p apos cpos pos : Pos} (hc : X.calm = true) (hu : X.A.units + 64 < cLine) (hg : Gl X "sorted") (hm : X.mg "sorted" = none) (hbase : attributeBase o "keys" X.env (eval o X.env) = eval o X.env) (hline : (apos.endLine == cpos.line) = true) (ha : SE X z W S T a o) :
    SE X z W S T (.p1 .skys a) (.Call (.Name "sorted" p) [.Call (.Attribute o "keys" apos) [] [] cpos] [] pos) := fun {σ H F G env n Q} er h => by
  refine (pe_callB (id := "sorted") (cr_sortKeys hc hu) hg hm (by decide +kernel) (pa_cons (pe_keysV (peW o) hbase hline) pa_nil (starEach_cons [] _ rfl)) (by decide) (by decide) (starEach_cons [] _ rfl) rfl).w (ha.use er h fun d n1 v H1 F1 G1 _ s1 er1 r1 h1 => ?_)
  obtain ⟨r, hr, hq⟩ := h1.lift
  cases d with
  | fdt ds =>
    have hr : (if srtOk (ds.map (·.1)) then some (D.lst ((ds.map (·.1)).mergeSort leD)) else none) = some r := hr
    split at hr
    rotate_left
    · cases hr
    cases hr
    rename_i h2
    generalize hxs : ds.map (·.1) = xs at h2 hq
    unfold srtOk at h2
    simp only [Bool.and_eq_true, Bool.or_eq_true, List.all_eq_true] at h2
    obtain ⟨⟨h3, h4⟩, h5⟩ := h2
    obtain ⟨b, kvs, rfl, e, ra, _⟩ := lvT er1.fg (.inr rfl) r1
    refine ⟨b, kvs, rfl, e.mono er1.gh, fun q hq0 => ⟨q, b, kvs, rfl, upd_same, (e.mono er1.gh).mono (Le.grow hq0), fun vs hk => ⟨vs.zip xs, ?_, ?_, ?_, ?_, fun y hy => ?_, fun l hl => ?_⟩⟩⟩
    all_goals
      have rv : ∀ F2 : Hp, (∀ q' ys, (upd H1 q (keysO q b)) q' = some (.tup ys) → F2 q' = some (.tup ys)) → RepL z.toCn F2 vs xs := (fun F2 w => hxs ▸ repL_keysV ra hk w)
      have hz : ∀ b ∈ vs.zip xs, b.2 ∈ xs := (fun b hb => (List.of_mem_zip (a := b.1) (b := b.2) hb).2)
      have hsh : ∀ b ∈ vs.zip xs, shp deep b.2 = true := (fun b hb => shpAll_mem h3 _ (hz b hb))
    · exact (rv _ fun _ _ e => e).fst
    · exact RepL.dps .rfl (rv _ fun _ _ e => e) h3
    · intro d hd d' hd'
      obtain ⟨b, hb, rfl⟩ := List.mem_map.mp hd
      obtain ⟨c, hc, rfl⟩ := List.mem_map.mp hd'
      exact alk_py _ _ (h4 _ (hz b hb) _ (hz c hc))
    · rcases h5 with h5 | h5
      · refine .inl fun d hd => ?_
        obtain ⟨b, hb, rfl⟩ := List.mem_map.mp hd
        have := h5 _ (hz b hb)
        cases e : b.2 with
        | tup ys =>
          cases ys with
          | nil => rw [e] at this; cases this
          | cons y r => exact ⟨toPy y, toPys r, by simp [toPy, toPys]⟩
        | _ => rw [e] at this; cases this
      · refine .inr fun d hd => ?_
        obtain ⟨b, hb, rfl⟩ := List.mem_map.mp hd
        have := h5 _ (hz b hb)
        cases e : b.2 with
        | lst ys => exact ⟨by simp [toPy], fun xs => by simp [toPy]⟩
        | str ys => exact ⟨by simp [toPy], fun xs => by simp [toPy]⟩
        | _ => rw [e] at this; cases this
    · have := shp_shaped (k := deep) (by decide) (hsh y hy)
      have q := shp_lay (hsh y hy)
      have : deep = 20 := rfl
      omega
    · have hle : ∀ b ∈ vs.zip xs, ∀ c ∈ vs.zip xs, PySem.W.dataLe false (fun b : V × D => toPy b.2) b c = leD b.2 c.2 := fun b hb c hc => by
        rw [PySem.W.dataLe_eq]
        show (!PySem.W.dataLt (toPy c.2) (toPy b.2)) = _
        rw [lt_py deep c.2 b.2 (hsh c hc) (hsh b hb) (h4 _ (hz c hc) _ (hz b hb))]; rfl
      have e : (((vs.zip xs).mergeSort (PySem.W.dataLe false fun b : V × D => toPy b.2)).map Prod.snd) = xs.mergeSort leD := by
        rw [PySem.W.sort_maps (s := leD) Prod.snd hle, (rv _ fun _ _ e => e).snd]
      have mem : ∀ b ∈ (vs.zip xs).mergeSort (PySem.W.dataLe false fun b : V × D => toPy b.2), b ∈ vs.zip xs := fun b hb => (List.mergeSort_perm _ _).mem_iff.mp hb
      rw [← e] at hq
      exact keys_fin er1 hq0 hl (fun F2 w => repL_of fun b hb => (rv F2 w).zipped b (mem b hb)) hq
  | _ => cases hr
end
end L2.Ms

namespace L2.Ms
open PySem PySem.Spec PyProof.Rows Mv
theorem wipeD_some {env : Ev} {i : Nat} {x : D} : ∀ {vs : List Nat}, (wipeD env vs)[i]? = some (some x) → env[i]? = some (some x) ∧ i ∉ vs
  | [], h => ⟨h, by simp⟩
  | v :: vs, h => by
    unfold wipeD at h
    by_cases hi : v = i
    · subst hi
      by_cases hv : v < (wipeD env vs).length
      · rw [List.getElem?_set_self hv] at h; cases h
      · rw [List.getElem?_eq_none (by simpa using hv)] at h; cases h
    · rw [List.getElem?_set_ne hi] at h
      obtain ⟨h1, h2⟩ := wipeD_some h
      exact ⟨h1, fun q => (List.mem_cons.mp q).elim (fun q => hi q.symm) h2⟩
theorem wipeD_length (env : Ev) : ∀ vs : List Nat, (wipeD env vs).length = env.length
  | [] => rfl
  | v :: vs => by unfold wipeD; rw [List.length_set, wipeD_length env vs]
theorem wipe_in {σ : St} {i : Nat} : ∀ {vs : List Nat}, i ∈ vs → i < σ.length → (wipe σ vs)[i]? = some none
  | [], h, _ => by cases h
  | v :: vs, h, hl => by
    unfold wipe
    by_cases hi : v = i
    · subst hi
      rw [List.getElem?_set_self (by rw [wipe_length]; exact hl)]
    · rw [List.getElem?_set_ne hi]
      exact wipe_in ((List.mem_cons.mp h).resolve_left fun q => hi q.symm) hl
theorem wipe_eq {σ τ : St} {vs : List Nat} (h : ∀ i, i ∉ vs → τ[i]? = σ[i]?) (hl : τ.length = σ.length) : wipe τ vs = wipe σ vs := by
  apply List.ext_getElem?
  intro i
  by_cases hi : i ∈ vs
  · by_cases hlt : i < σ.length
    · rw [wipe_in hi hlt, wipe_in hi (by rw [hl]; exact hlt)]
    · rw [List.getElem?_eq_none (by rw [wipe_length, hl]; omega), List.getElem?_eq_none (by rw [wipe_length]; omega)]
  · rw [wipe_out hi, wipe_out hi]; exact h i hi
theorem gather_noex {f : D → Nat → Out (Option D)} : ∀ (xs : List D) (n : Nat) (c : Str) (n' : Nat), gather f xs n ≠ .ex c n'
  | [], n, c, n' => fun h => by cases h
  | x :: r, n, c, n' => fun h => by
    unfold gather at h
    split at h
    · split at h <;> cases h
    · cases h
/-- the block's own view -/
def Fx.blk (z : Fx) (H : Hp) (tg : List Nat) : Fx := { z with H0 := H, own := minus z.own tg }
section
variable {X : Cx} {z : Fx} {W : WX} {S : Sub} {T : Tab} {σ : St} {H F G H1 F1 G1 H2 F2 G2 : Hp} {env : Ev} {n n1 n2 : Nat}
theorem ER.blk (er : ER z σ H F G env n) (tg : List Nat) : ER (z.blk H tg) (wipe σ tg) H F G (wipeD env tg) n where
  fg := er.fg
  gh := er.gh
  h0 := fun _ _ e _ => e
  tw := fun a q => ⟨(er.tw a q).1, (er.tw a q).2.1, by rw [show (z.blk H tg).H0 = H from rfl, (er.tw a q).1]; simp⟩
  val := fun i d h ho => by
    obtain ⟨h1, h2⟩ := wipeD_some h
    rw [wipe_out h2]
    exact er.val i d h1 ((minus_out h2).symm.trans ho)
  ow := fun i d h ho => by
    obtain ⟨h1, h2⟩ := wipeD_some h
    rw [wipe_out h2]
    exact er.ow i d h1 ((minus_out h2).symm.trans ho)
  ow2 := fun i d h ho => by
    obtain ⟨h1, h2⟩ := wipeD_some h
    rw [wipe_out h2]
    exact er.ow2 i d h1 (Nat.le_trans ho (Nat.le_of_eq (minus_out h2)))
  dis := fun i j d e p p' a hne hi hj h1 h2 h3 h4 => by
    obtain ⟨a1, a2⟩ := wipeD_some h1
    obtain ⟨b1, b2⟩ := wipeD_some h2
    rw [wipe_out a2] at h3
    rw [wipe_out b2] at h4
    show Owns G p (minus z.own tg i) a → ¬ Owns G p' (minus z.own tg j) a
    have hi : minus z.own tg i ≠ 0 := hi
    have hj : minus z.own tg j ≠ 0 := hj
    rw [minus_out a2] at hi ⊢
    rw [minus_out b2] at hj ⊢
    exact er.dis i j d e p p' a hne hi hj a1 b1 h3 h4
  len := by rw [wipeD_length, wipe_length]; exact er.len
/-- steps in the block are steps -/
theorem Step.unblk {tg : List Nat} (s : Step z H F G H1 F1 G1 n1) (t : Step (z.blk H1 tg) H1 F1 G1 H2 F2 G2 n2) : Step z H F G H2 F2 G2 n2 := by
  refine Step.trans s ⟨t.ff, t.gg, t.fg, t.gh, t.nf, t.ng, t.kp, fun a o h q => t.h0 a o (s.h0 a o h q) q, t.dom, fun a q => ⟨(t.tw a q).1, (t.tw a q).2.1, (s.tw a q).2.2⟩⟩
theorem Step.put (s : Step z H F G H1 F1 G1 n1) {p : Addr} {o : HO} (hh : H p = none) (hg : G1 p = none) (h0 : z.H0 p = none) (ht : z.pt ≠ some p) : Step z H F G (upd H1 p o) F1 G1 n1 where
  ff := s.ff
  gg := s.gg
  fg := s.fg
  gh := s.gh.right hg
  nf := s.nf
  ng := s.ng
  kp := fun a u h q => by rw [upd_ne (ne_of_none h hh)]; exact s.kp a u h q
  h0 := fun a u h q => by rw [upd_ne (ne_of_none h h0)]; exact s.h0 a u h q
  dom := fun a h => by
    by_cases e : a = p
    · subst e; rw [upd_same]; simp
    · rw [upd_ne e]; exact s.dom a h
  tw := fun a q => by
    have e : a ≠ p := fun e => ht (e ▸ q)
    rw [upd_ne e]; exact s.tw a q
def W0 : WX := fun _ _ _ _ => False
def tUE (z : Fx) (S : Sub) (T : Tab) (tg : List Nat) (e : ME) : TE := fun σ H Q => ∃ H0 F G env n, ER (z.blk H0 tg) σ H F G env n ∧ PostE (z.blk H0 tg) W0 σ H F G (lev (z.blk H0 tg).own e) (evE S T e env n) Q
def tUT (z : Fx) (S : Sub) (T : Tab) (tg : List Nat) (e : ME) : TT := fun σ H Q => ∃ H0 F G env n, ER (z.blk H0 tg) σ H F G env n ∧ PostT (z.blk H0 tg) W0 σ H F G (evE S T e env n) Q
/-- an expression whose value may go straight to a name -/
def SL (X : Cx) (z : Fx) (W : WX) (S : Sub) (T : Tab) (me : ME) (e : Expr) : Prop := ∃ t : TE, PE X e t ∧
  (∀ (i : Nat) (y : Str) (py spos : Pos), X.N[i]? = some y → X.env.scope.names.lookup y = some .local → swapsWith e (some (.Name y py)) spos.line X.env = pure true → PS X (.Assign [.Name y py] e spos) (tAsg t (gName i))) ∧
  (∀ (σ : St) (H F G : Hp) (env : Ev) (n : Nat) (Q : VK), ER z σ H F G env n → PostE z W σ H F G (lev z.own me) (evE S T me env n) Q → t σ H Q) ∧
  (∀ (σ : St) (H F G : Hp) (env : Ev) (n : Nat) (Q : VK), 2 ≤ lev z.own me → ER z σ H F G env n → PostF z W σ H F G (evE S T me env n) Q → t σ H Q)
theorem SL.se {me : ME} {e : Expr} (h : SL X z W S T me e) : SE X z W S T me e := fun {σ H F G env n Q} er p => by
  obtain ⟨t, h1, _, h3, _⟩ := h
  exact h1.w (h3 σ H F G env n Q er p)
/-- the turns of a comprehension -/
theorem lc_loop {L : Nat} (g : Good X z.toCn W L) {tg : List Nat} {two : Bool} {t e : ME} {xs ys : List D} {n3 : Nat} {J : It} {Q : VK} (er1 : ER z σ H1 F1 G1 env n1) (wk : Wk z.toCn J xs (if two = true then F1 else G1) F1) (hlen : xs.length ≤ sizeLine)
    (h3 : gather (turnL (fun x => bindT tg x (wipeD env tg)) (evE S T t) (evE S T e)) xs n1 = .ok ys n3)
    (k : ∀ D, H1 D = none → ∀ H2 F2 G2 accV, Step z H1 F1 G1 H2 F2 G2 n3 → H2 D = some (.lst accV) → G2 D = none → RepL z.toCn G2 accV ys → (2 ≤ lev (minus z.own tg) e → RepL z.toCn F2 accV ys) → Q (.ref D) H2) :
    ∀ D, H1 D = none → ∃ W : Nat → Nat → Hp → Prop, (∃ m, W 0 m (upd H1 D (.lst []))) ∧ ∀ i m H, W i m H →
      (J.stop i H ∧ Q (.ref D) H) ∨ (J.go i H ∧ ∃ Nx : Hp → Prop, (∀ H', Nx H' → ∃ m', m' < m ∧ W (i + 1) m' H') ∧ ∀ x H', J.yld i H x H' → gOf X.K tg x (wipe σ tg) H' fun σ2 H2 => wipe σ2 tg = wipe σ tg ∧ tUT z S T tg t σ2 H2 fun b H3 =>
        if b = true then tUE z S T tg e σ2 H3 fun y H4 => ∃ acc, H4 D = some (.lst acc) ∧ acc.length < sizeLine ∧ Nx (upd H4 D (.lst (acc ++ [y]))) else Nx H3) := by
  generalize hf : turnL (fun x => bindT tg x (wipeD env tg)) (evE S T t) (evE S T e) = f at h3
  intro D hD
  have hDt : z.pt ≠ some D := er1.notTown hD
  have hD0 : z.H0 D = none := er1.free0 hD
  let Wp : Nat → Nat → Hp → Prop := fun i m H2 => m = xs.length - i ∧ i ≤ xs.length ∧ ∃ F2 G2 n2 accV acc ys2, Step z H1 F1 G1 H2 F2 G2 n2 ∧ H2 D = some (.lst accV) ∧ G2 D = none ∧ RepL z.toCn G2 accV acc ∧
    (2 ≤ lev (minus z.own tg) e → RepL z.toCn F2 accV acc) ∧ acc.length ≤ i ∧ gather f (xs.drop i) n2 = .ok ys2 n3 ∧ ys = acc ++ ys2
  refine ⟨Wp, ⟨xs.length, by simp, Nat.zero_le _, F1, G1, n1, [], [], ys, er1.refl.newH er1.dom0 hD, upd_same, er1.gh.non hD, .nil, fun _ => .nil, by simp, by simpa using h3, rfl⟩, ?_⟩
  rintro i m H2 ⟨rfl, hi, F2, G2, n2, accV, acc, ys2, st, hH2, hG2, rg, rf, hacc, hga, hys⟩
  have er2 := er1.step st
  have leA : Le (if two = true then F1 else G1) H2 := by
    split
    · exact (er1.fg.trans st.gg).trans er2.gh
    · exact st.gg.trans er2.gh
  by_cases hlt : i < xs.length
  · refine .inr ⟨wk.go i H2 leA hlt, fun H' => Wp (i + 1) (xs.length - (i + 1)) H', fun H' p => ⟨_, by omega, p⟩, fun x H' y => ?_⟩
    obtain ⟨rfl, d, hd, rx⟩ := wk.yld i H2 x _ leA hlt y
    have hdrop : xs.drop i = d :: xs.drop (i + 1) := by
      rw [List.drop_eq_getElem_cons hlt]
      rw [List.getElem?_eq_getElem hlt] at hd
      cases hd
      rfl
    rw [hdrop] at hga
    unfold gather at hga
    split at hga
    · rename_i o n2' hfd
      split at hga
      · rename_i ys3 n4 hg3
        cases hga
        rw [← hf] at hfd
        unfold turnL at hfd
        split at hfd
        · rename_i env1 hb
          have erb := er2.blk tg
          have hown : ∀ k ∈ tg, (z.blk H' tg).own k = 0 := fun k hk => minus_in hk
          refine gOf_ok (z := z.blk H' tg) (by rw [g.K]; rfl) erb hown (rx.mono st.ff) hb fun σ1 er3 hoff hlen1 => ⟨?_, ?_⟩
          · exact (wipe_eq hoff hlen1).trans (wipe_eq (fun j hj => wipe_out hj) (wipe_length _ _))
          · refine ⟨H', F2, G2, env1, n2, er3, ?_⟩
            split at hfd
            · rename_i n2a hta
              rw [hta]
              intro H3 F3 G3 s3
              rw [if_pos rfl]
              split at hfd
              · rename_i y' n2b hea
                cases hfd
                refine ⟨H', F3, G3, env1, n2a, er3.step s3, ?_⟩
                rw [hea]
                intro v H4 F4 G4 s4 rv
                have s34 := s3.trans s4
                have st4 := Step.unblk st s34
                have hD4 : H4 D = some (.lst accV) := s34.h0 D _ hH2 hDt
                have hG4 : G4 D = none := Classical.byContradiction fun q => by
                  rcases s34.ng D q with q | q
                  · exact q hG2
                  · exact q.mut hH2 trivial
                refine ⟨accV, hD4, by rw [rg.length]; omega, rfl, hlt, F4, G4, _, accV ++ [v], acc ++ [y'], ys3, st4.put hD hG4 hD0 hDt, upd_same, hG4, (rg.mono s34.gg).append (.cons (rv.g s4.fg) .nil), fun h2 => ((rf h2).mono s34.ff).append (.cons (rv.two h2) .nil), by simp; omega, hg3, by simpa using hys⟩
              · cases hfd
            · rename_i n2a hta
              cases hfd
              rw [hta]
              intro H3 F3 G3 s3
              rw [if_neg Bool.false_ne_true]
              have st4 := Step.unblk st s3
              have hD4 : H3 D = some (.lst accV) := s3.h0 D _ hH2 hDt
              have hG4 : G3 D = none := Classical.byContradiction fun q => by
                rcases s3.ng D q with q | q
                · exact q hG2
                · exact q.mut hH2 trivial
              exact ⟨rfl, hlt, F3, G3, _, accV, acc, ys3, st4, hD4, hG4, rg.mono s3.gg, fun h2 => (rf h2).mono s3.ff, by omega, hg3, hys⟩
            · cases hfd
        · cases hfd
      · cases hga
    · cases hga
  · refine .inl ⟨wk.stop i H2 leA (by omega), ?_⟩
    have e0 : xs.drop i = [] := List.drop_eq_nil_of_le (by omega)
    rw [e0] at hga
    simp only [gather, Out.ok.injEq] at hga
    obtain ⟨rfl, rfl⟩ := hga
    rw [List.append_nil] at hys
    subst hys
    exact k D hD H2 F2 G2 accV st hH2 hG2 rg rf
theorem sl_lc {L : Nat} (g : Good X z.toCn W L) {tg : List Nat} {mi : MI} {t e : ME} {elt tgE itE : Expr} {ifs : List Expr} {scope : Scope} {ow : List (Str × Nat)} {pos : Pos} (how : ow.map (·.2) = tg) (ok : BlkOk X.N X.env.scope scope ow) (hi : SI X z W S T mi tgE itE)
    (hg : ∀ (s : Shared) (H : Hp) (C : Addr) (cl : List (Str × Addr)) (fp : List Addr), PG (X.blk s H scope (compEnvC scope cl C X.env) fp) tgE (gOf X.K tg))
    (ht : ∀ (H0 : Hp) (s : Shared) (H : Hp) (C : Addr) (cl : List (Str × Addr)) (fp : List Addr), (ifs = [] ∧ t = .c (.bl true)) ∨ ∃ e0, ifs = [e0] ∧ ST (X.blk s H scope (compEnvC scope cl C X.env) fp) (z.blk H0 tg) W0 S T t e0)
    (he : ∀ (H0 : Hp) (s : Shared) (H : Hp) (C : Addr) (cl : List (Str × Addr)) (fp : List Addr), SE (X.blk s H scope (compEnvC scope cl C X.env) fp) (z.blk H0 tg) W0 S T e elt)
    (hs : ∀ x, foldedSetIterable itE X.env x = pure x) : SL X z W S T (.lc tg mi t e) (.ListComp elt [⟨tgE, itE, ifs, 0⟩] scope pos) := by
  have ht' : ∀ (s : Shared) (H : Hp) (C : Addr) (cl : List (Str × Addr)) (fp : List Addr), PTs (X.blk s H scope (compEnvC scope cl C X.env) fp) ifs (tUT z S T tg t) := fun s H C cl fp => by
    refine ⟨fun pins s' σ' H' Q' I hq => ?_⟩
    obtain ⟨H0, F', G', env', n', er', hq⟩ := hq
    rcases ht H0 s H C cl fp with ⟨rfl, rfl⟩ | ⟨e0, rfl, hst⟩
    · exact pts_nil.run pins s' σ' H' Q' I (hq _ _ _ er'.refl)
    · exact (pts_one (ptW e0)).run pins s' σ' H' Q' I (hst er' hq)
  have he' : ∀ (s : Shared) (H : Hp) (C : Addr) (cl : List (Str × Addr)) (fp : List Addr), PE (X.blk s H scope (compEnvC scope cl C X.env) fp) elt (tUE z S T tg e) := fun s H C cl fp =>
    ⟨fun pins s' σ' H' Q' I ⟨H0, F', G', env', n', er', hq⟩ => he H0 s H C cl fp er' hq pins s' I⟩
  refine ⟨_, pe_lc g.calm g.nd (piW tgE itE) ok hg ht' he' hs, fun i y py spos hy hl hsw => ps_setLc g.calm g.nd hy hl hsw (piW tgE itE) ok hg ht' he' hs, fun σ H F G env n Q er h => ?_, fun σ H F G env n Q hlv er h => ?_⟩
  · rw [how]
    refine hi er ?_
    simp only [evE] at h
    cases h1 : evI S T mi env n with
    | ex c n1 => rw [h1] at h; exact h
    | bad => rw [h1] at h; exact h
    | ok xs n1 =>
      rw [h1, Out.bind_ok] at h
      intro J H1 F1 G1 s1 wk hlen
      cases h3 : gather (turnL (fun x => bindT tg x (wipeD env tg)) (evE S T t) (evE S T e)) xs n1 with
      | ex c n' => exact absurd h3 (gather_noex _ _ _ _)
      | bad => rw [h3] at h; exact h.elim
      | ok ys n3 =>
        rw [h3, Out.bind_ok] at h
        have er1 := er.step s1
        refine lc_loop g er1 wk hlen h3 fun D hD H2 F2 G2 accV st hH2 hG2 rg rf => ?_
        have hHD : H D = none := Classical.byContradiction fun q => s1.dom D q hD
        refine h _ _ _ _ ((s1.trans st).tellF hH2 hHD hG2 (er1.notTown hD)) ?_
        simp only [lev]
        split
        · rename_i h2
          exact .lst upd_same ((rf h2).mono (Le.grow (st.fg.non hG2)))
        · exact .lst upd_same (rg.mono (Le.grow hG2))
  · rw [how]
    refine hi er ?_
    simp only [evE] at h
    cases h1 : evI S T mi env n with
    | ex c n1 => rw [h1] at h; exact h
    | bad => rw [h1] at h; exact h
    | ok xs n1 =>
      rw [h1, Out.bind_ok] at h
      intro J H1 F1 G1 s1 wk hlen
      cases h3 : gather (turnL (fun x => bindT tg x (wipeD env tg)) (evE S T t) (evE S T e)) xs n1 with
      | ex c n' => exact absurd h3 (gather_noex _ _ _ _)
      | bad => rw [h3] at h; exact h.elim
      | ok ys n3 =>
        rw [h3, Out.bind_ok] at h
        have er1 := er.step s1
        refine lc_loop g er1 wk hlen h3 fun D hD H2 F2 G2 accV st hH2 hG2 rg rf => ?_
        have hHD : H D = none := Classical.byContradiction fun q => s1.dom D q hD
        refine h D accV ys rfl H2 F2 G2 (s1.trans st) hHD hH2 hG2 (er1.notTown hD) (rf ?_)
        simp only [lev] at hlv
        split at hlv
        · assumption
        · omega
end
end L2.Ms

namespace L2.Ms
open PySem PySem.Spec PyProof.Rows Mv

/-! ### isinstance of a caught error -/
theorem cr_isExc {X : Cx} : CallR X (.builtin "isinstance") (fun xs H Q => ∃ (a : Addr) (c : Str) (w : V) (u : Value) (b : Bool), xs = [.ref a, w] ∧ H a = some (exO X.K c a) ∧ ClsV w u ∧ ExcC X.K (He.ga X.K c) ∧ PySem.W.kitOne X.K (.ref (He.ga X.K c)) u = some b ∧ Q (.bl b) H) := by
  intro pins s σ H xs us Q I r h
  obtain ⟨a, c, w, u, b, rfl, ha, k, C, e, q⟩ := h
  obtain ⟨u1, u2, rfl, r1, r2⟩ := vals2 r
  have e2 := k.eq r2
  subst e2
  cases r1
  obtain ⟨⟨o, vs, ho, hc, hd, hdt⟩, _⟩ := I.hok a _ ha
  obtain ⟨oc, od, odt, osl⟩ := o
  dsimp only at hc hd hdt
  subst hc hd hdt
  have J : PySem.W.InstAt s.heap a ⟨.ref (He.ga X.K c), none, .fields vs, osl⟩ (He.ga X.K c) none := ⟨ho, rfl, rfl, trivial⟩
  exact PySem.W.kia_one (PySem.W.handS_kitx_exc C.hg C.hk C.hs C.hd C.ha C.hn C.ht C.hm) I.kIn J e (fun z => nomatch z) fun tk => ⟨.bl b, H, I.tok tk, rfl, q⟩

/-! ### the settings of a text -/
structure Cfg where
  N : List Str
  fr : List Str
  gc : List (Str × D)
  ec : List Str
/-- what the module says -/
structure MF (fr : List Str) (gc : List (Str × D)) (ec : List Str) (S : Sub) (K : PySem.W.Frag) (mg : Str → Option Value) : Prop where
  free : ∀ x ∈ fr, mg x = none
  con : ∀ x d, gc.lookup x = some d → ∃ u v, mg x = some u ∧ RelV v u ∧ ∀ c F, Rep c F v d
  excG : ∀ c ∈ ec, mg c = some (.ref (He.ga K c))
  excC : ∀ c ∈ ec, ExcC K (He.ga K c)
  excI : ∀ c ∈ ec, PySem.W.excIn K (He.ga K c) He.veBase "ValueError.__new__" = true ∧ PySem.W.keepIn K (.ref (He.ga K c)) = true ∧ PySem.W.typeIn K (.ref (He.ga K c)) = some (.type "type")
  kit : ∀ c ∈ ec, ∀ x ∈ ec, PySem.W.kitOne K (.ref (He.ga K c)) (.ref (He.ga K x)) = some (S c x)
  kitV : ∀ c ∈ ec, PySem.W.kitOne K (.ref (He.ga K c)) (.type "ValueError") = some (S c "ValueError")
  exm : ∀ c ∈ ec, PySem.W.exmOne K (.ref (He.ga K c)) (.ref (He.ga K "RuleError")) = some (S c "RuleError")
  sub : ∀ c x, S c x = true → c ∈ ec

section
variable {X : Cx} {z : Fx} {W : WX} {S : Sub} {T : Tab} {fr : List Str} {gc : List (Str × D)} {ec : List Str}
theorem p_isExc (hK : X.K = z.K) (M : MF fr gc ec S X.K X.mg) {x : Str} {w : V} {u : Value} (k : ClsV w u) (hk : ∀ c ∈ ec, PySem.W.kitOne X.K (.ref (He.ga X.K c)) u = some (S c x)) : Pr1 X z S (.isExc x) (.builtin "isinstance") [w] := by
  intro σ H F G env n v d r l Q er hv hs hq
  cases d with
  | exc e =>
    simp only [sem1] at hs
    split at hs
    · rename_i hS
      cases hs
      have he := M.sub e _ hS
      have q : Rep z.toCn G v (.exc e) := hv.g er.fg
      cases q with
      | exc ea => exact cr_isExc.w ⟨_, e, w, u, S e x, rfl, by rw [hK]; exact er.gh _ _ ea, k, M.excC e he, hk e he, fin_same er (.bl _) hq⟩
    · cases hs
  | _ => simp [sem1] at hs
end

/-! ### from the text to the small language -/
def cName (g : Cfg) (sc : Scope) (x : Str) : ME := match sc.names.lookup x with
  | some .globalImplicit => if x == ("__debug__" : Str) then .bad else (match g.gc.lookup x with
    | some d => .c d
    | none => .bad)
  | some .globalExplicit => .bad
  | some _ => if x == ("__debug__" : Str) || x == ("__classdict__" : Str) then .bad else if g.N[g.N.idxOf x]? = some x then .v (g.N.idxOf x) else .bad
  | none => .bad
def opP : Operator → Option P2
  | .Add => some .add
  | .Sub => some .sub
  | .Mult => some .mul
  | .Mod => some .mod
  | .FloorDiv => some .fdiv
  | .Pow => some .pow
  | _ => none
def cmpP : CmpOp → Option P2
  | .Eq => some .eq
  | .NotEq => some .ne
  | .Lt => some .lt
  | .LtE => some .le
  | .Gt => some .gt
  | .GtE => some .ge
  | .In => some .in_
  | .NotIn => some .nin
  | _ => none
def isGl (g : Cfg) (sc : Scope) (x : Str) : Bool := decide (sc.names.lookup x = some .globalImplicit) && decide (x ∈ g.fr)
def cConst : Const → ME
  | .none => .c .non
  | .bool b => .c (.bl b)
  | .int i => .c (.int i)
  | .str s => .c (.str s)
  | _ => .bad
def b1 (x : Str) : Option P1 := if x = "len" then some .len else if x = "all" then some .all_ else if x = "any" then some .any_ else if x = "sorted" then some .srt else if x = "sum" then some .sum_ else if x = "min" then some .minL else none
def t1 (x : Str) : Option P1 := if x = "list" then some .toL else if x = "tuple" then some .toT else if x = "str" then some .strI else none
def b2 (x : Str) : Option P2 := if x = "min" then some .min2 else if x = "max" then some .max2 else none
def m1 (x : Str) : Option P2 := if x = "index" then some .index else if x = "count" then some .count else none
/-- a comprehension of tuples -/
def isTLC : Expr → Bool
  | .ListComp (.Tuple ..) .. => true
  | _ => false
/-- letters -/
def isTxt : Expr → Bool
  | .BinOp (.Call (.Name f _) _ _ _) .Add _ _ => decide (f = "letters_of")
  | _ => false
def isStrC : Expr → Bool
  | .Constant (.str _) _ _ => true
  | _ => false
/-- dict(zip(a, b)) -/
def cDZ (g : Cfg) (sc : Scope) (rE : Expr → ME) (es : List Expr) : ME := match es with
  | [.Call (.Name x _) [a, b] [] _] => if x = "zip" ∧ isGl g sc "zip" = true ∧ isGl g sc "dict" = true ∧ noStar a = true ∧ noStar b = true then .p2 .dzip (rE a) (rE b) else .bad
  | _ => .bad
/-- isinstance(e, C) -/
def cIsi (g : Cfg) (sc : Scope) (m : ME) (e2 : Expr) : ME := match e2 with
          | .Name c _ => if c = "str" then (if isGl g sc c then .p1 .isStr m else .bad) else if c = "tuple" then (if isGl g sc c then .p1 .isTup m else .bad)
            else if c = "list" then (if isGl g sc c then .p1 .isLst m else .bad) else if c = "dict" then (if isGl g sc c then .p1 .isDct m else .bad) else if c = "bool" then (if isGl g sc c then .p1 .isBool m else .bad)
            else if c = "ValueError" then (if isGl g sc c then .p1 (.isExc c) m else .bad)
            else if c ∈ g.ec ∧ sc.names.lookup c = some .globalImplicit ∧ (c == ("__debug__" : Str)) = false then .p1 (.isExc c) m else .bad
          | _ => .bad
/-- list(o.keys()), sorted(o.keys()) -/
def cKeys (rE : Expr → ME) (f : Str) (o : Expr) (m : Str) (l : Bool) : ME := match o with
  | .Call _ [] _ _ => .bad
  | o => if m = "keys" ∧ l = true then (if f = "list" then .p1 .kys (rE o) else if f = "sorted" then .p1 .skys (rE o) else .bad) else .bad
/-- a call of a name -/
def cCall (g : Cfg) (sc : Scope) (rE : Expr → ME) (rA : List Expr → MEs) (f : Str) (es : List Expr) : ME :=
  if f = "dict" then cDZ g sc rE es else
  if f ∈ g.fr then (if isGl g sc f = false then .bad else match es with
    | [.Call (.Name x _) [e] [] _] =>
      if x = "range" then (if isGl g sc "range" && noStar e then (if f = "list" then .p1 .rngL (rE e) else if f = "tuple" then .p1 .rngT (rE e) else .bad) else .bad)
      else if x = "set" then (if isGl g sc "set" && noStar e then (if f = "sorted" then (if isTxt e then .p1 .ssetS (rE e) else .p1 .sset (rE e)) else if f = "len" then (if isTLC e then .p1 .lsetT (rE e) else .p1 .lset (rE e)) else .bad) else .bad)
      else (match b1 f with
        | some p => .p1 p (rE (es.headD (.Constant .none 0 ⟨0, 0, 0, 0⟩)))
        | none => match t1 f with
          | some p => .p1 p (rE (es.headD (.Constant .none 0 ⟨0, 0, 0, 0⟩)))
          | none => .bad)
    | [.Call (.Attribute o m apos) [] [] pos2] => cKeys rE f o m (apos.endLine == pos2.line)
    | [e] => if noStar e then (match b1 f with
        | some p => .p1 p (rE e)
        | none => match t1 f with
          | some p => .p1 p (rE e)
          | none => .bad) else .bad
    | [e, e2] => if noStar e && noStar e2 then (match b2 f with
        | some p => .p2 p (rE e) (rE e2)
        | none => if f = "isinstance" then cIsi g sc (rE e) e2 else .bad) else .bad
    | _ => .bad)
  else if es.all noStar && !es.isEmpty && decide (sc.names.lookup f = some .globalImplicit) && !(f == ("__debug__" : Str)) && !isSpoil f then .call f (rA es) else .bad
def isCallE : Expr → Bool
  | .Call .. => true
  | _ => false
/-- a call without arguments -/
def isCall0 : Expr → Bool
  | .Call _ [] _ _ => true
  | _ => false
def cMeth (rE : Expr → ME) (o : Expr) (m : Str) (apos : Pos) (es : List Expr) (pos : Pos) : ME := match es with
  | [e] => if noStar e && !isCallE o && (apos.endLine == pos.line) then (if m = "join" then .jn (rE o) (rE e) else if m = "index" ∧ isStrC o = true then .ms .sidx (rE o) (rE e) else if m = "split" then .ms .splt (rE o) (rE e) else match m1 m with
    | some p => .mt p (rE o) (rE e)
    | none => .bad) else .bad
  | [e, f] => if noStar e && noStar f && !isCall0 o && (apos.endLine == pos.line) then (if m = "get" then .dge (rE o) (rE e) (rE f) else .bad) else .bad
  | _ => .bad
def cPart (rE : Expr → ME) : Option Expr → ME
  | none => .c .non
  | some e => if isAbs (rE e) then .bad else rE e
def isSlice : Expr → Bool
  | .Slice .. => true
  | _ => false
def cSub (rE : Expr → ME) (a b : Expr) : ME := match b with
  | .Slice none none (some (.UnaryOp .USub (.Constant (.int 1) _ _) _)) _ => .p1 .rev (rE a)
  | .Slice lo hi none _ => .sl (rE a) (cPart rE lo) (cPart rE hi)
  | .Slice _ _ _ _ => .bad
  | b => .p2 .idx (rE a) (rE b)
def cCmp (rE : Expr → ME) (a : Expr) (ops : List CmpOp) (es : List Expr) : ME := match ops, es with
  | [.Is], [.Constant .none _ _] => .p1 .isN (rE a)
  | [.IsNot], [.Constant .none _ _] => .p1 .notN (rE a)
  | [op], [b] => (match cmpP op with
    | some p => if behindInMarks op b then .bad else .p2 p (rE a) (rE b)
    | none => .bad)
  | [op, op'], [b, c] => (match cmpP op, cmpP op' with
    | some p, some q => if lastMarks [op, op'] [b, c] then .bad else .chn p q (rE a) (rE b) (rE c)
    | _, _ => .bad)
  | _, _ => .bad
def cBool (r : Expr → ME) (op : BoolOp) (es : List Expr) : ME := match op, es with
  | .And, [a, b] => .and (r a) (r b)
  | .And, [a, b, c] => .and (r a) (.and (r b) (r c))
  | .And, [a, b, c, d] => .and (r a) (.and (r b) (.and (r c) (r d)))
  | .Or, [a, b] => .or (r a) (r b)
  | .Or, [a, b, c] => .or (r a) (.or (r b) (r c))
  | _, _ => .bad
def cBoolT (r : Expr → ME) (op : BoolOp) (es : List Expr) : ME := match op, es with
  | .And, [a, b] => .and (r a) (r b)
  | .And, [a, b, c] => .and (r a) (.and (r b) (r c))
  | .And, [a, b, c, d] => .and (r a) (.and (r b) (.and (r c) (r d)))
  | .Or, [a, b] => .or (r a) (r b)
  | .Or, [a, b, c] => .or (r a) (.or (r b) (r c))
  | .Or, [a, b, c, d] => .or (r a) (.or (r b) (.or (r c) (r d)))
  | _, _ => .bad
/-- the names of a target -/
def tgNames : Expr → Option (List Str)
  | .Name x _ => some [x]
  | .Tuple [.Name x _, .Name y _] _ _ => some [x, y]
  | .Tuple [.Name x _, .Name y _, .Name w _] _ _ => some [x, y, w]
  | .Tuple [.Name x _, .Name y _, .Name w _, .Name t _] _ _ => some [x, y, w, t]
  | _ => none
def isSetE : Expr → Bool
  | .Set .. => true
  | _ => false
def locB (sc : Scope) (x : Str) : Bool := match sc.names.lookup x with
  | some .local => true
  | some .cell => true
  | _ => false
def isLocal (sc : Scope) (x : Str) : Bool := decide (sc.names.lookup x = some .local)
/-- [elt for tg in it if ..] -/
def cLc (g : Cfg) (sc : Scope) (rI : Expr → MI) (rT rE : Scope → Expr → ME) (elt : Expr) (gs : List Comprehension) (scope : Scope) : ME := match gs with
  | [⟨tg, it, ifs, 0⟩] => (match tgNames tg with
    | some xs => if blkC g.N sc scope (xs.map fun x => (x, g.N.idxOf x)) && !isSetE it && xs.all (fun x => decide (g.N[g.N.idxOf x]? = some x) && (isLocal (relS scope sc) x || (decide ((relS scope sc).names.lookup x = some .cell) && decide (scope.names.lookup x = some .cell)))) then (match ifs with
      | [] => .lc (xs.map fun x => g.N.idxOf x) (rI it) (.c (.bl true)) (rE (relS scope sc) elt)
      | [e0] => .lc (xs.map fun x => g.N.idxOf x) (rI it) (rT (relS scope sc) e0) (rE (relS scope sc) elt)
      | _ => .bad) else .bad
    | none => .bad)
  | _ => .bad
def cIt (g : Cfg) (sc : Scope) (rE : Expr → ME) (e : Expr) : MI := match e with
  | .Call (.Name f _) [a] [] _ => if f = "range" ∧ isGl g sc "range" = true ∧ noStar a = true then .rg (rE a) else .sq (rE e)
  | .Call (.Name f _) [a, b] [] _ => if f = "range" ∧ isGl g sc "range" = true ∧ noStar a = true ∧ noStar b = true then .rg2 (rE a) (rE b) else .sq (rE e)
  | .Call (.Attribute o m apos) [] [] pos => if (apos.endLine == pos.line) = true ∧ isCall0 o = false ∧ m = "keys" then .ks (rE o) else if (apos.endLine == pos.line) = true ∧ isCall0 o = false ∧ m = "values" then .vs (rE o) else .sq (rE e)
  | e => .sq (rE e)
mutual
def cE (g : Cfg) : Nat → Scope → Expr → ME
  | 0, _, _ => .bad
  | k + 1, sc, e => match e with
    | .Constant c _ _ => cConst c
    | .Name x _ => cName g sc x
    | .BinOp a op b _ => (match opP op with
      | some p => .p2 p (cE g k sc a) (cE g k sc b)
      | none => .bad)
    | .UnaryOp .USub a _ => .p1 .neg (cE g k sc a)
    | .UnaryOp .Not a _ => .p1 .not_ (cE g k sc a)
    | .BoolOp op es _ => cBool (cE g k sc) op es
    | .Compare a ops es _ => cCmp (cE g k sc) a ops es
    | .IfExp t a b _ => .ite (cT g k sc t) (cE g k sc a) (cE g k sc b)
    | .Call (.Name f _) es [] _ => cCall g sc (cE g k sc) (cA g k sc) f es
    | .Call (.Attribute o m apos) es [] pos => cMeth (cE g k sc) o m apos es pos
    | .Subscript a b _ => cSub (cE g k sc) a b
    | .Tuple es _ _ => if es.all noStar then .tup (cA g k sc es) else .bad
    | .List es _ => if es.all noStar then .lst (cA g k sc es) else .bad
    | .ListComp elt gs scope _ => cLc g sc (cI g k sc) (cT g k) (cE g k) elt gs scope
    | _ => .bad
def cT (g : Cfg) : Nat → Scope → Expr → ME
  | 0, _, _ => .bad
  | k + 1, sc, e => match e with
    | .UnaryOp .Not a _ => .p1 .not_ (cT g k sc a)
    | .BoolOp op es _ => cBoolT (cT g k sc) op es
    | .Compare a ops es _ => cCmp (cE g k sc) a ops es
    | .IfExp _ _ _ _ => .bad
    | e => .p1 .tru (cE g k sc e)
def cA (g : Cfg) : Nat → Scope → List Expr → MEs
  | 0, _, _ => .cons .bad .nil
  | k + 1, sc, es => match es with
    | [] => .nil
    | e :: es => .cons (cE g k sc e) (cA g k sc es)
def cI (g : Cfg) : Nat → Scope → Expr → MI
  | 0, _, _ => .sq .bad
  | k + 1, sc, e => cIt g sc (cE g k sc) e
end
mutual
def okE (own : Nat → Nat) : ME → Bool
  | .p1 _ a => okE own a
  | .p2 _ a b => okE own a && okE own b
  | .mt _ a b => okE own a && okE own b
  | .sl a b c => okE own a && okE own b && okE own c
  | .chn _ _ a b c => okE own a && okE own b && okE own c
  | .and a b => okE own a && okE own b
  | .or a b => okE own a && okE own b
  | .ite a b c => okE own a && okE own b && okE own c
  | .call _ as => okA own as
  | .tup as => okA own as
  | .lst as => okA own as
  | .lc tg it t e => okI own it && okE (minus own tg) t && okE (minus own tg) e
  | .jn a b => okE own a && okE own b
  | .ms _ a b => okE own a && okE own b
  | .callF _ as => false
  | .dge a b c => okE own a && okE own b && okE own c
  | _ => true
def okA (own : Nat → Nat) : MEs → Bool
  | .nil => true
  | .cons a as => okE own a && okA own as
def okI (own : Nat → Nat) : MI → Bool
  | .sq a => decide (1 ≤ lev own a) && okE own a
  | .rg a => okE own a
  | .rg2 a b => okE own a && okE own b
  | .ks a => decide (1 ≤ lev own a) && okE own a
  | .vs a => decide (1 ≤ lev own a) && okE own a
end
end L2.Ms

namespace L2.Ms
open PySem PySem.Spec PyProof.Rows Mv
structure Ctx (g : Cfg) (X : Cx) (z : Fx) (W : WX) (L : Nat) (S : Sub) (T : Tab) (sc : Scope) : Prop where
  good : Good X z.toCn W L
  N : X.N = g.N
  sc : X.env.scope = sc
  mf : MF g.fr g.gc g.ec S X.K X.mg
  tab : TabOk X.prog X.w X.K X.mg X.base L T
section
variable {g : Cfg} {X : Cx} {z : Fx} {W : WX} {L : Nat} {S : Sub} {T : Tab} {sc : Scope}
theorem Ctx.gl (c : Ctx g X z W L S T sc) {x : Str} (h : sc.names.lookup x = some .globalImplicit) : Gl X x := by
  show X.env.scope.names.lookup x = _
  rw [c.sc]; exact h
theorem isGl_ok (c : Ctx g X z W L S T sc) {x : Str} (h : isGl g sc x = true) : Gl X x ∧ X.mg x = none := by
  unfold isGl at h
  simp only [Bool.and_eq_true, decide_eq_true_eq] at h
  exact ⟨c.gl h.1, c.mf.free x h.2⟩
theorem cName_ok (c : Ctx g X z W L S T sc) (x : Str) (pos : Pos) : SE X z W S T (cName g sc x) (.Name x pos) := by
  unfold cName
  split
  · rename_i h
    split
    · exact se_bad
    · rename_i hd
      split
      · rename_i d hl
        obtain ⟨u, v, hm, r, hr⟩ := c.mf.con x d hl
        exact se_c (fun F => hr _ F) (pe_glob (c.gl h) hm r (by simpa using hd))
      · exact se_bad
  · exact se_bad
  · rename_i k h1 h2 h
    split
    · exact se_bad
    · rename_i hd
      simp only [Bool.or_eq_true, not_or] at hd
      split
      · rename_i hN
        refine se_v (pe_var (by rw [c.N]; exact hN) ?_ (by simpa using hd.1) (by simpa using hd.2))
        unfold Vis
        rw [c.sc]
        cases k with
        | «local» => exact .inl h
        | cell => exact .inr (.inl h)
        | free => exact .inr (.inr h)
        | globalExplicit => exact absurd rfl h2
        | globalImplicit => exact absurd rfl h1
      · exact se_bad
  · exact se_bad
theorem cConst_ok (c : Const) (k : Nat) (pos : Pos) : SE X z W S T (cConst c) (.Constant c k pos) := by
  unfold cConst
  split
  · exact se_c (fun _ => .non) pe_non
  · exact se_c (fun _ => .bl _) pe_bl
  · exact se_c (fun _ => .int _) pe_int
  · exact se_c (fun _ => .str _) pe_str
  · exact se_bad
theorem opP_ok {op : Operator} {p : P2} (h : opP op = some p) : Pr2 X z p (binaryOp op) := by
  cases op <;> simp only [opP, reduceCtorEq, Option.some.injEq] at h <;> subst h
  · exact pr_add
  · exact pr_sub
  · exact pr_mul
  · exact pr_mod
  · exact pr_pow
  · exact pr_fdiv
theorem cmpP_ok (gd : Good X z.toCn W L) {op : CmpOp} {p : P2} (h : cmpP op = some p) : Pr2 X z p (compareOp op) ∧ lv2 p = fun _ _ => 2 := by
  cases op <;> simp only [cmpP, reduceCtorEq, Option.some.injEq] at h <;> subst h
  · exact ⟨pr_eq gd.u4, rfl⟩
  · exact ⟨pr_ne gd.u4, rfl⟩
  · exact ⟨pr_lt, rfl⟩
  · exact ⟨pr_le, rfl⟩
  · exact ⟨pr_gt, rfl⟩
  · exact ⟨pr_ge, rfl⟩
  · exact ⟨pr_in gd.u, rfl⟩
  · exact ⟨pr_nin gd.u, rfl⟩
theorem cCmp_ok (gd : Good X z.toCn W L) {rE : Expr → ME} {a : Expr} {ops : List CmpOp} {es : List Expr} {pos : Pos} (ih : ∀ e, okE z.own (rE e) = true → SE X z W S T (rE e) e) (h : okE z.own (cCmp rE a ops es) = true) :
    SE X z W S T (cCmp rE a ops es) (.Compare a ops es pos) ∧ ST X z W S T (cCmp rE a ops es) (.Compare a ops es pos) := by
  generalize hm : cCmp rE a ops es = m at h ⊢
  unfold cCmp at hm
  split at hm
  · subst hm; exact ⟨se_isN (ih _ h), st_isN (ih _ h)⟩
  · subst hm; exact ⟨se_notN (ih _ h), st_notN (ih _ h)⟩
  · split at hm
    · rename_i p hp
      obtain ⟨h1, h2⟩ := cmpP_ok gd hp
      split at hm
      · subst hm; exact ⟨se_bad, st_bad⟩
      · rename_i hb
        subst hm
        simp only [okE, Bool.and_eq_true] at h
        exact ⟨se_cmp h1 (by simpa using hb) (ih _ h.1) (ih _ h.2), st_cmp h1 (by simpa using hb) (ih _ h.1) (ih _ h.2) h2⟩
    · subst hm; exact ⟨se_bad, st_bad⟩
  · split at hm
    · rename_i p q hp hq
      obtain ⟨h1, h2⟩ := cmpP_ok gd hp
      obtain ⟨h3, h4⟩ := cmpP_ok gd hq
      split at hm
      · subst hm; exact ⟨se_bad, st_bad⟩
      · rename_i hb
        subst hm
        simp only [okE, Bool.and_eq_true] at h
        exact ⟨se_chn h1 h3 (by simpa using hb) (ih _ h.1.1) (ih _ h.1.2) (ih _ h.2) h2 h4, st_chn h1 h3 (by simpa using hb) (ih _ h.1.1) (ih _ h.1.2) (ih _ h.2) h2 h4⟩
    · subst hm; exact ⟨se_bad, st_bad⟩
  · subst hm; exact ⟨se_bad, st_bad⟩
theorem cBool_ok {rE : Expr → ME} {op : BoolOp} {es : List Expr} {pos : Pos} (ih : ∀ e, okE z.own (rE e) = true → SE X z W S T (rE e) e) (h : okE z.own (cBool rE op es) = true) : SE X z W S T (cBool rE op es) (.BoolOp op es pos) := by
  generalize hm : cBool rE op es = m at h ⊢
  unfold cBool at hm
  split at hm <;> subst hm <;> simp only [okE, Bool.and_eq_true] at h
  · exact se_and2 (ih _ h.1) (ih _ h.2)
  · exact se_and3 (ih _ h.1) (ih _ h.2.1) (ih _ h.2.2)
  · exact se_and4 (ih _ h.1) (ih _ h.2.1) (ih _ h.2.2.1) (ih _ h.2.2.2)
  · exact se_or2 (ih _ h.1) (ih _ h.2)
  · exact se_or3 (ih _ h.1) (ih _ h.2.1) (ih _ h.2.2)
  · exact se_bad
theorem cBoolT_ok {rE : Expr → ME} {op : BoolOp} {es : List Expr} {pos : Pos} (ih : ∀ e, okE z.own (rE e) = true → ST X z W S T (rE e) e) (h : okE z.own (cBoolT rE op es) = true) : ST X z W S T (cBoolT rE op es) (.BoolOp op es pos) := by
  generalize hm : cBoolT rE op es = m at h ⊢
  unfold cBoolT at hm
  split at hm <;> subst hm <;> simp only [okE, Bool.and_eq_true] at h
  · exact st_and2 (ih _ h.1) (ih _ h.2)
  · exact st_and3 (ih _ h.1) (ih _ h.2.1) (ih _ h.2.2)
  · exact st_and4 (ih _ h.1) (ih _ h.2.1) (ih _ h.2.2.1) (ih _ h.2.2.2)
  · exact st_or2 (ih _ h.1) (ih _ h.2)
  · exact st_or3 (ih _ h.1) (ih _ h.2.1) (ih _ h.2.2)
  · exact st_or4 (ih _ h.1) (ih _ h.2.1) (ih _ h.2.2.1) (ih _ h.2.2.2)
  · exact st_bad
theorem cPart_ok {rE : Expr → ME} {o : Option Expr} (ih : ∀ e, okE z.own (rE e) = true → SE X z W S T (rE e) e) (h : okE z.own (cPart rE o) = true) : SPt X z W S T (cPart rE o) o := by
  cases o with
  | none => exact .inl ⟨rfl, rfl⟩
  | some e =>
    unfold cPart at h ⊢
    dsimp only at h ⊢
    split
    · exact .inr ⟨e, rfl, se_bad, rfl⟩
    · rename_i ha
      rw [if_neg ha] at h
      exact .inr ⟨e, rfl, ih e h, by simpa using ha⟩
theorem plainIx_of {b : Expr} (h : isSlice b = false) : PlainIx b := by
  intro o i
  cases b <;> first | rfl | (simp [isSlice] at h)
theorem cSub_ok (hu : X.A.units + 64 < cLine) (hK : X.K = z.K) {rE : Expr → ME} {a b : Expr} {pos : Pos} (ih : ∀ e, okE z.own (rE e) = true → SE X z W S T (rE e) e) (h : okE z.own (cSub rE a b) = true) : SE X z W S T (cSub rE a b) (.Subscript a b pos) := by
  generalize hm : cSub rE a b = m at h ⊢
  unfold cSub at hm
  split at hm
  · subst hm; exact se_rev (ih _ h)
  · subst hm
    simp only [okE, Bool.and_eq_true] at h
    exact se_sl (ih _ h.1.1) (cPart_ok ih h.1.2) (cPart_ok ih h.2)
  · subst hm; exact se_bad
  · rename_i h1 h2 h3
    subst hm
    simp only [okE, Bool.and_eq_true] at h
    refine se_idx hu hK (plainIx_of ?_) (ih _ h.1) (ih _ h.2)
    cases b <;> first | rfl | (exact absurd rfl (h3 _ _ _ _))
theorem m1_ok (gd : Good X z.toCn W L) {m : Str} {p : P2} (h : m1 m = some p) : ∃ id, Pr2M X z p id ∧ Slot "list" m id ∧ typeOf (.builtin id) = pure (.type "method_descriptor") := by
  unfold m1 at h
  split at h
  · rename_i e
    subst e
    cases h
    exact ⟨"list.index", p_index gd.u, PySem.F.slot_list_index, PySem.F.type_list_index⟩
  · split at h
    · rename_i e
      subst e
      cases h
      exact ⟨"list.count", p_count gd.u, PySem.F.slot_list_count, PySem.F.type_list_count⟩
    · cases h
theorem cMeth_ok (gd : Good X z.toCn W L) {rE : Expr → ME} {o : Expr} {m : Str} {apos pos : Pos} {es : List Expr} (ih : ∀ e, okE z.own (rE e) = true → SE X z W S T (rE e) e) (h : okE z.own (cMeth rE o m apos es pos) = true) :
    SE X z W S T (cMeth rE o m apos es pos) (.Call (.Attribute o m apos) es [] pos) := by
  generalize hm : cMeth rE o m apos es pos = me at h ⊢
  unfold cMeth at hm
  split at hm
  · split at hm
    · rename_i hc
      simp only [Bool.and_eq_true] at hc
      split at hm
      · rename_i ej
        subst ej
        subst hm
        simp only [okE, Bool.and_eq_true] at h
        refine se_jn hc.1.1 (attrBase_of ?_) hc.2 (ih _ h.1) (ih _ h.2)
        have := hc.1.2
        cases o <;> first | rfl | (simp [isCallE] at this)
      split at hm
      · rename_i ej
        obtain ⟨ej, _⟩ := ej
        subst ej
        subst hm
        simp only [okE, Bool.and_eq_true] at h
        refine se_sidx hc.1.1 (attrBase_of ?_) hc.2 (ih _ h.1) (ih _ h.2)
        have := hc.1.2
        cases o <;> first | rfl | (simp [isCallE] at this)
      split at hm
      · rename_i ej
        subst ej
        subst hm
        simp only [okE, Bool.and_eq_true] at h
        refine se_splt hc.1.1 (attrBase_of ?_) hc.2 (ih _ h.1) (ih _ h.2)
        have := hc.1.2
        cases o <;> first | rfl | (simp [isCallE] at this)
      split at hm
      · rename_i p hp
        subst hm
        simp only [okE, Bool.and_eq_true] at h
        obtain ⟨id, h1, h2, h3⟩ := m1_ok gd hp
        refine se_mt h1 h2 h3 hc.1.1 (attrBase_of ?_) hc.2 (ih _ h.1) (ih _ h.2)
        have := hc.1.2
        cases o <;> first | rfl | (simp [isCallE] at this)
      · subst hm; exact se_bad
    · subst hm; exact se_bad
  · split at hm
    · rename_i hc
      simp only [Bool.and_eq_true] at hc
      split at hm
      · rename_i ej
        subst ej
        subst hm
        simp only [okE, Bool.and_eq_true] at h
        show SE X z W S T _ _
        refine se_dge (by have := gd.u; omega) hc.1.1.1 hc.1.1.2 (attrBase_any ?_) hc.2 (ih _ h.1.1) (ih _ h.1.2) (ih _ h.2)
        have := hc.1.2
        cases o with
        | Call f es ks p => cases es <;> first | rfl | (simp [isCall0] at this)
        | _ => rfl
      · subst hm; exact se_bad
    · subst hm; exact se_bad
  · subst hm; exact se_bad
theorem b1_ok (gd : Good X z.toCn W L) {f : Str} {p : P1} (h : b1 f = some p) : ∃ id, Pr1 X z S p (.builtin id) [] ∧ bootBuiltins f = some (.builtin id) ∧ f ≠ "__name__" ∧ (f == ("__debug__" : Str)) = false := by
  unfold b1 at h
  split at h
  · rename_i e; subst e; cases h; exact ⟨_, p_len gd.K, by decide +kernel, by decide, by decide⟩
  · split at h
    · rename_i e; subst e; cases h; exact ⟨_, p_all gd.calm, by decide +kernel, by decide, by decide⟩
    · split at h
      · rename_i e; subst e; cases h; exact ⟨_, p_any gd.calm, by decide +kernel, by decide, by decide⟩
      · split at h
        · rename_i e; subst e; cases h; exact ⟨_, p_srt gd.u4, by decide +kernel, by decide, by decide⟩
        · split at h
          · rename_i e; subst e; cases h; exact ⟨_, p_sum gd.calm, by decide +kernel, by decide, by decide⟩
          · split at h
            · rename_i e; subst e; cases h; exact ⟨_, p_minL gd.calm gd.u4, by decide +kernel, by decide, by decide⟩
            · cases h
theorem t1_ok (gd : Good X z.toCn W L) {f : Str} {p : P1} (h : t1 f = some p) : ∃ id, Pr1 X z S p (.type id) [] ∧ bootBuiltins f = some (.type id) ∧ f ≠ "__name__" ∧ (f == ("__debug__" : Str)) = false := by
  unfold t1 at h
  split at h
  · rename_i e; subst e; cases h; exact ⟨_, p_toL gd.calm, by decide +kernel, by decide, by decide⟩
  · split at h
    · rename_i e; subst e; cases h; exact ⟨_, p_toT, by decide +kernel, by decide, by decide⟩
    · split at h
      · rename_i e; subst e; cases h; exact ⟨_, p_strI, by decide +kernel, by decide, by decide⟩
      · cases h
theorem b2_ok (gd : Good X z.toCn W L) {f : Str} {p : P2} (h : b2 f = some p) : ∃ id, Pr2C X z p (.builtin id) ∧ bootBuiltins f = some (.builtin id) ∧ f ≠ "__name__" ∧ (f == ("__debug__" : Str)) = false := by
  unfold b2 at h
  split at h
  · rename_i e; subst e; cases h; exact ⟨_, p_min2 gd.calm gd.u4, by decide +kernel, by decide, by decide⟩
  · split at h
    · rename_i e; subst e; cases h; exact ⟨_, p_max2 gd.calm, by decide +kernel, by decide, by decide⟩
    · cases h
theorem pe_tyN (c : Ctx g X z W L S T sc) {x : Str} {t : String} {p : Pos} (h : isGl g sc x = true) (hv : bootBuiltins x = some (.type t)) (hn : x ≠ "__name__") (hd : (x == ("__debug__" : Str)) = false) : PE X (.Name x p) (tC (.ty t)) :=
  pe_bltn (isGl_ok c h).1 (isGl_ok c h).2 hv rfl hn hd
theorem cIsi_ok (c : Ctx g X z W L S T sc) {m0 : ME} {e e2 : Expr} {p pos : Pos} (hg : Gl X "isinstance") (hmg : X.mg "isinstance" = none) (hn1 : noStar e = true) (hn2 : noStar e2 = true) (ih : okE z.own m0 = true → SE X z W S T m0 e) (h : okE z.own (cIsi g sc m0 e2) = true) :
    SE X z W S T (cIsi g sc m0 e2) (.Call (.Name "isinstance" p) [e, e2] [] pos) := by
  generalize hm : cIsi g sc m0 e2 = m at h ⊢
  unfold cIsi at hm
  split at hm
  · rename_i cn q
    split at hm
    · rename_i ec
      subst ec
      split at hm
      · rename_i hcg
        subst hm
        show SE X z W S T _ _; exact se_isi p_isStr hg hmg hn1 hn2 (ih h) (pe_tyN c hcg (by decide +kernel) (by decide) (by decide))
      · subst hm; show SE X z W S T _ _; exact se_bad
    · split at hm
      · rename_i ec
        subst ec
        split at hm
        · rename_i hcg
          subst hm
          show SE X z W S T _ _; exact se_isi p_isTup hg hmg hn1 hn2 (ih h) (pe_tyN c hcg (by decide +kernel) (by decide) (by decide))
        · subst hm; show SE X z W S T _ _; exact se_bad
      · split at hm
        · rename_i ec
          subst ec
          split at hm
          · rename_i hcg
            subst hm
            show SE X z W S T _ _; exact se_isi p_isLst hg hmg hn1 hn2 (ih h) (pe_tyN c hcg (by decide +kernel) (by decide) (by decide))
          · subst hm; show SE X z W S T _ _; exact se_bad
        · split at hm
          · rename_i ec
            subst ec
            split at hm
            · rename_i hcg
              subst hm
              show SE X z W S T _ _; exact se_isi p_isDct hg hmg hn1 hn2 (ih h) (pe_tyN c hcg (by decide +kernel) (by decide) (by decide))
            · subst hm; show SE X z W S T _ _; exact se_bad
          · split at hm
            · rename_i ec
              subst ec
              split at hm
              · rename_i hcg
                subst hm
                show SE X z W S T _ _; exact se_isi p_isBool hg hmg hn1 hn2 (ih h) (pe_tyN c hcg (by decide +kernel) (by decide) (by decide))
              · subst hm; show SE X z W S T _ _; exact se_bad
            · split at hm
              · rename_i ec
                subst ec
                split at hm
                · rename_i hcg
                  subst hm
                  show SE X z W S T _ _; exact se_isi (p_isExc c.good.K c.mf (clsV_ty "ValueError") fun x hx => c.mf.kitV x hx) hg hmg hn1 hn2 (ih h) (pe_tyN c hcg (by decide +kernel) (by decide) (by decide))
                · subst hm; show SE X z W S T _ _; exact se_bad
              · split at hm
                · rename_i hcg
                  subst hm
                  show SE X z W S T _ _; exact se_isi (p_isExc c.good.K c.mf (.own (He.ga X.K cn)) fun x hx => c.mf.kit x hx cn hcg.1) hg hmg hn1 hn2 (ih h) (pe_glob (c.gl hcg.2.1) (c.mf.excG cn hcg.1) rfl hcg.2.2)
                · subst hm; show SE X z W S T _ _; exact se_bad
  · subst hm; show SE X z W S T _ _; exact se_bad
theorem cKeys_ok (c : Ctx g X z W L S T sc) {rE : Expr → ME} {f : Str} {o : Expr} {m : Str} {p apos pos2 pos : Pos} {me : ME} (hg : Gl X f) (hmg : X.mg f = none) (ih : ∀ e, okE z.own (rE e) = true → SE X z W S T (rE e) e) (hm : cKeys rE f o m (apos.endLine == pos2.line) = me) (h : okE z.own me = true) :
    SE X z W S T me (.Call (.Name f p) [.Call (.Attribute o m apos) [] [] pos2] [] pos) := by
  unfold cKeys at hm
  split at hm
  · subst hm; show SE X z W S T _ _; exact se_bad
  · rename_i hno
    have hb : attributeBase o "keys" X.env (eval o X.env) = eval o X.env := attrBase_any (by
      cases o with
      | Call f es ks p => cases es <;> first | rfl | (exact absurd rfl (hno _ _ _))
      | _ => rfl)
    split at hm
    · rename_i hc
      obtain ⟨rfl, hl⟩ := hc
      split at hm
      · rename_i ef
        subst ef
        subst hm
        show SE X z W S T _ _; exact se_kys c.good.calm hg hmg hb hl (ih _ h)
      · split at hm
        · rename_i ef
          subst ef
          subst hm
          show SE X z W S T _ _; exact se_skys c.good.calm c.good.u4 hg hmg hb hl (ih _ h)
        · subst hm; show SE X z W S T _ _; exact se_bad
    · subst hm; show SE X z W S T _ _; exact se_bad
theorem cCall_ok (c : Ctx g X z W L S T sc) {rE : Expr → ME} {rA : List Expr → MEs} {f : Str} {es : List Expr} {p pos : Pos} (ih : ∀ e, okE z.own (rE e) = true → SE X z W S T (rE e) e) (iA : ∀ es, es.all noStar = true → okA z.own (rA es) = true → SA X z W S T (rA es) es) (h : okE z.own (cCall g sc rE rA f es) = true) :
    SE X z W S T (cCall g sc rE rA f es) (.Call (.Name f p) es [] pos) := by
  generalize hm : cCall g sc rE rA f es = m at h ⊢
  unfold cCall at hm
  split at hm
  · rename_i ef
    subst ef
    unfold cDZ at hm
    split at hm
    · split at hm
      · rename_i hc
        obtain ⟨ex, g1, g2, n1, n2⟩ := hc
        subst ex
        subst hm
        simp only [okE, Bool.and_eq_true] at h
        show SE X z W S T _ _
        exact se_dzip c.good.calm (isGl_ok c g2).1 (isGl_ok c g2).2 (isGl_ok c g1).1 (isGl_ok c g1).2 n1 n2 (ih _ h.1) (ih _ h.2)
      · subst hm; show SE X z W S T _ _; exact se_bad
    · subst hm; show SE X z W S T _ _; exact se_bad
  split at hm
  · split at hm
    · subst hm; show SE X z W S T _ _; exact se_bad
    · rename_i hfr hgl
      have hgl' : isGl g sc f = true := by simpa using hgl
      obtain ⟨hg, hmg⟩ := isGl_ok c hgl'
      split at hm
      · rename_i x q e q2
        split at hm
        · rename_i ex
          subst ex
          split at hm
          · rename_i hc
            simp only [Bool.and_eq_true] at hc
            obtain ⟨hg2, hm2⟩ := isGl_ok c hc.1
            split at hm
            · rename_i ef
              subst ef
              subst hm
              show SE X z W S T _ _; exact se_rngL c.good.calm hg hmg hg2 hm2 hc.2 (ih _ h)
            · split at hm
              · rename_i ef
                subst ef
                subst hm
                show SE X z W S T _ _; exact se_rngT c.good.calm hg hmg hg2 hm2 hc.2 (ih _ h)
              · subst hm; show SE X z W S T _ _; exact se_bad
          · subst hm; show SE X z W S T _ _; exact se_bad
        · split at hm
          · rename_i ex
            subst ex
            split at hm
            · rename_i hc
              simp only [Bool.and_eq_true] at hc
              obtain ⟨hg2, hm2⟩ := isGl_ok c hc.1
              split at hm
              · rename_i ef
                subst ef
                split at hm
                · subst hm
                  show SE X z W S T _ _; exact se_ssetS c.good.calm c.good.u4 hg hmg hg2 hm2 hc.2 (ih _ h)
                · subst hm
                  show SE X z W S T _ _; exact se_sset c.good.calm c.good.K hg hmg hg2 hm2 hc.2 (ih _ h)
              · split at hm
                · rename_i ef
                  subst ef
                  split at hm
                  · subst hm
                    show SE X z W S T _ _; exact se_lsetT c.good.calm c.good.u4 c.good.K hg hmg hg2 hm2 hc.2 (ih _ h)
                  · subst hm
                    show SE X z W S T _ _; exact se_lset c.good.calm c.good.K hg hmg hg2 hm2 hc.2 (ih _ h)
                · subst hm; show SE X z W S T _ _; exact se_bad
            · subst hm; show SE X z W S T _ _; exact se_bad
          · split at hm
            · rename_i p1 hp1
              subst hm
              obtain ⟨id, h1, h2, h3, h4⟩ := b1_ok c.good hp1
              show SE X z W S T _ _; exact se_call1 h1 hg hmg h2 rfl (ih _ h) h3 h4
            · split at hm
              · rename_i p1 hp1
                subst hm
                obtain ⟨id, h1, h2, h3, h4⟩ := t1_ok c.good hp1
                show SE X z W S T _ _; exact se_callT1 h1 hg hmg h2 rfl (ih _ h) h3 h4
              · subst hm; show SE X z W S T _ _; exact se_bad
      · show SE X z W S T _ _
        exact cKeys_ok c hg hmg ih hm h
      · split at hm
        · rename_i hn
          split at hm
          · rename_i p1 hp1
            subst hm
            obtain ⟨id, h1, h2, h3, h4⟩ := b1_ok c.good hp1
            show SE X z W S T _ _; exact se_call1 h1 hg hmg h2 hn (ih _ h) h3 h4
          · split at hm
            · rename_i p1 hp1
              subst hm
              obtain ⟨id, h1, h2, h3, h4⟩ := t1_ok c.good hp1
              show SE X z W S T _ _; exact se_callT1 h1 hg hmg h2 hn (ih _ h) h3 h4
            · subst hm; show SE X z W S T _ _; exact se_bad
        · subst hm; show SE X z W S T _ _; exact se_bad
      · split at hm
        · rename_i hn
          simp only [Bool.and_eq_true] at hn
          split at hm
          · rename_i p2 hp2
            subst hm
            simp only [okE, Bool.and_eq_true] at h
            obtain ⟨id, h1, h2, h3, h4⟩ := b2_ok c.good hp2
            show SE X z W S T _ _; exact se_call2 h1 hg hmg h2 hn.1 hn.2 (ih _ h.1) (ih _ h.2) h3 h4
          · split at hm
            · rename_i ef
              subst ef
              subst hm
              show SE X z W S T _ _; exact cIsi_ok c hg hmg hn.1 hn.2 (fun q => ih _ q) h
            · subst hm; show SE X z W S T _ _; exact se_bad
        · subst hm; show SE X z W S T _ _; exact se_bad
      · subst hm; show SE X z W S T _ _; exact se_bad
  · split at hm
    · rename_i hc
      simp only [Bool.and_eq_true, decide_eq_true_eq] at hc
      cases es with
      | nil => simp at hc
      | cons e es =>
        subst hm
        show SE X z W S T _ _; exact se_call c.good c.tab (c.gl hc.1.1.2) (by simpa using hc.1.2) (by simpa using hc.2) hc.1.1.1.1 (iA _ hc.1.1.1.1 h)
    · subst hm; show SE X z W S T _ _; exact se_bad
end
end L2.Ms

namespace L2.Ms
open PySem PySem.Spec PyProof.Rows Mv
section
variable {g : Cfg} {X : Cx} {z : Fx} {W : WX} {L : Nat} {S : Sub} {T : Tab} {sc : Scope}
theorem cIt_ok (c : Ctx g X z W L S T sc) {rE : Expr → ME} {tg e : Expr} (ih : ∀ e, okE z.own (rE e) = true → SE X z W S T (rE e) e) (h : okI z.own (cIt g sc rE e) = true) : SI X z W S T (cIt g sc rE e) tg e := by
  generalize hm : cIt g sc rE e = m at h ⊢
  unfold cIt at hm
  split at hm
  · split at hm
    · rename_i hc
      obtain ⟨rfl, h1, h2⟩ := hc
      subst hm
      obtain ⟨hg, hmg⟩ := isGl_ok c h1
      show SI X z W S T _ _ _
      exact si_rg hg hmg h2 (ih _ h)
    · subst hm
      simp only [okI, Bool.and_eq_true, decide_eq_true_eq] at h
      show SI X z W S T _ _ _
      exact si_sq h.1 (ih _ h.2)
  · split at hm
    · rename_i hc
      obtain ⟨rfl, h1, h2, h3⟩ := hc
      subst hm
      simp only [okI, Bool.and_eq_true] at h
      obtain ⟨hg, hmg⟩ := isGl_ok c h1
      show SI X z W S T _ _ _
      exact si_rg2 hg hmg h2 h3 (ih _ h.1) (ih _ h.2)
    · subst hm
      simp only [okI, Bool.and_eq_true, decide_eq_true_eq] at h
      show SI X z W S T _ _ _
      exact si_sq h.1 (ih _ h.2)
  · rename_i o m apos pos
    have hb : ∀ {n : Str}, isCall0 o = false → attributeBase o n X.env (eval o X.env) = eval o X.env := fun h0 => attrBase_any (by
      cases o with
      | Call f es ks p => cases es <;> first | rfl | (simp [isCall0] at h0)
      | _ => rfl)
    split at hm
    · rename_i hc
      obtain ⟨h1, h2, rfl⟩ := hc
      subst hm
      simp only [okI, Bool.and_eq_true, decide_eq_true_eq] at h
      show SI X z W S T _ _ _
      exact si_ks (hb h2) h1 h.1 (ih _ h.2)
    · split at hm
      · rename_i hc
        obtain ⟨h1, h2, rfl⟩ := hc
        subst hm
        simp only [okI, Bool.and_eq_true, decide_eq_true_eq] at h
        show SI X z W S T _ _ _
        exact si_vs (hb h2) h1 h.1 (ih _ h.2)
      · subst hm
        simp only [okI, Bool.and_eq_true, decide_eq_true_eq] at h
        show SI X z W S T _ _ _
        exact si_sq h.1 (ih _ h.2)
  · subst hm
    simp only [okI, Bool.and_eq_true, decide_eq_true_eq] at h
    show SI X z W S T _ _ _
    exact si_sq h.1 (ih _ h.2)
theorem pg_of {Y : Cx} {xs : List Str} {tg : Expr} (ht : tgNames tg = some xs) (hc : Y.calm = true) (hN : Y.N.Nodup) (hx : ∀ x ∈ xs, Y.N[Y.N.idxOf x]? = some x ∧ Loc Y.env.scope x ∧ (Y.fn x = true ∨ Y.env.scope.names.lookup x = some .local)) : PG Y tg (gOf Y.K (xs.map fun x => Y.N.idxOf x)) := by
  unfold tgNames at ht
  split at ht
  · cases ht
    obtain ⟨h1, h2, h3⟩ := hx _ List.mem_cons_self
    exact pg_name hN h1 h2 h3
  · cases ht
    obtain ⟨a1, a2, a3⟩ := hx _ (List.mem_cons_self)
    obtain ⟨b1, b2, b3⟩ := hx _ (List.mem_cons_of_mem _ List.mem_cons_self)
    exact pg_tup hc (pgs_cons (pg_name hN a1 a2 a3) (pgs_cons (pg_name hN b1 b2 b3) pgs_nil rfl) rfl) rfl rfl
  · cases ht
    obtain ⟨a1, a2, a3⟩ := hx _ (List.mem_cons_self)
    obtain ⟨b1, b2, b3⟩ := hx _ (List.mem_cons_of_mem _ List.mem_cons_self)
    obtain ⟨c1, c2, c3⟩ := hx _ (List.mem_cons_of_mem _ (List.mem_cons_of_mem _ List.mem_cons_self))
    exact pg_tup hc (pgs_cons (pg_name hN a1 a2 a3) (pgs_cons (pg_name hN b1 b2 b3) (pgs_cons (pg_name hN c1 c2 c3) pgs_nil rfl) rfl) rfl) rfl rfl
  · cases ht
    obtain ⟨a1, a2, a3⟩ := hx _ (List.mem_cons_self)
    obtain ⟨b1, b2, b3⟩ := hx _ (List.mem_cons_of_mem _ List.mem_cons_self)
    obtain ⟨c1, c2, c3⟩ := hx _ (List.mem_cons_of_mem _ (List.mem_cons_of_mem _ List.mem_cons_self))
    obtain ⟨d1, d2, d3⟩ := hx _ (List.mem_cons_of_mem _ (List.mem_cons_of_mem _ (List.mem_cons_of_mem _ List.mem_cons_self)))
    exact pg_tup hc (pgs_cons (pg_name hN a1 a2 a3) (pgs_cons (pg_name hN b1 b2 b3) (pgs_cons (pg_name hN c1 c2 c3) (pgs_cons (pg_name hN d1 d2 d3) pgs_nil rfl) rfl) rfl) rfl) rfl rfl
  · cases ht
theorem Ctx.blk (c : Ctx g X z W L S T sc) (H0 : Hp) (tg : List Nat) (s : Shared) (H : Hp) (scope : Scope) (C : Addr) (cl : List (Str × Addr)) (fp : List Addr) : Ctx g (X.blk s H scope (compEnvC scope cl C X.env) fp) (z.blk H0 tg) W0 L S T (relS scope sc) where
  good := ⟨c.good.calm, c.good.K, c.good.nd, c.good.room, PassesOwn.never, fun _ _ x => by
    obtain ⟨_, _, _, _, _, _, _, _, _, _, _, _, _, _, _, _, q⟩ := x
    exact q.elim⟩
  N := c.N
  sc := by
    show relabel scope X.env = relS scope sc
    rw [← c.sc]
    rfl
  mf := c.mf
  tab := c.tab
theorem sl_bad {e : Expr} : SL X z W S T .bad e := ⟨fun _ _ _ => False, ⟨fun _ _ _ _ _ _ h => h.elim⟩, fun _ _ _ _ _ _ _ => ⟨fun _ _ _ _ _ _ h => h.elim⟩, fun _ _ _ _ _ _ _ _ h => h.elim, fun _ _ _ _ _ _ _ _ _ h => h.elim⟩
theorem cLc_ok (c : Ctx g X z W L S T sc) {rI : Expr → MI} {rT rE : Scope → Expr → ME} {elt : Expr} {gs : List Comprehension} {scope : Scope} {pos : Pos} (iI : ∀ tg e, okI z.own (rI e) = true → SI X z W S T (rI e) tg e)
    (iT : ∀ sc' Y y V, Ctx g Y y V L S T sc' → ∀ e, okE y.own (rT sc' e) = true → ST Y y V S T (rT sc' e) e) (iE : ∀ sc' Y y V, Ctx g Y y V L S T sc' → ∀ e, okE y.own (rE sc' e) = true → SE Y y V S T (rE sc' e) e)
    (h : okE z.own (cLc g sc rI rT rE elt gs scope) = true) : SL X z W S T (cLc g sc rI rT rE elt gs scope) (.ListComp elt gs scope pos) := by
  generalize hm : cLc g sc rI rT rE elt gs scope = m at h ⊢
  unfold cLc at hm
  split at hm
  · rename_i tg it ifs
    split at hm
    · rename_i xs hxs
      split at hm
      · rename_i hc
        simp only [Bool.and_eq_true, List.all_eq_true, Bool.or_eq_true, decide_eq_true_eq] at hc
        obtain ⟨⟨hblk, hset⟩, hnm⟩ := hc
        have ok : BlkOk X.N X.env.scope scope (xs.map fun x => (x, g.N.idxOf x)) := by
          rw [c.N, c.sc]
          exact blkOk_by hblk
        have hs : ∀ x, foldedSetIterable it X.env x = pure x := fun x => by
          cases it <;> first | rfl | (simp [isSetE] at hset)
        have how : (xs.map fun x => (x, g.N.idxOf x)).map (·.2) = xs.map fun x => g.N.idxOf x := by simp
        have hg : ∀ (s : Shared) (H : Hp) (C : Addr) (cl : List (Str × Addr)) (fp : List Addr), PG (X.blk s H scope (compEnvC scope cl C X.env) fp) tg (gOf X.K (xs.map fun x => g.N.idxOf x)) := fun s H C cl fp => by
          have cb := c.blk H [] s H scope C cl fp
          have q := pg_of (Y := X.blk s H scope (compEnvC scope cl C X.env) fp) hxs cb.good.calm cb.good.nd fun x hx => ?_
          · rw [show (X.blk s H scope (compEnvC scope cl C X.env) fp).N = g.N from c.N] at q
            exact q
          · obtain ⟨h1, h2⟩ := hnm x hx
            rw [cb.N, cb.sc]
            refine ⟨h1, ?_, ?_⟩
            · rcases h2 with h2 | h2
              · exact .inl (of_decide_eq_true h2)
              · exact .inr h2.1
            · rcases h2 with h2 | h2
              · exact .inr (of_decide_eq_true h2)
              · refine .inl ?_
                show (scope.names.lookup x == some .cell) = true
                rw [h2.2]; rfl
        split at hm
        · subst hm
          simp only [okE, Bool.and_eq_true] at h
          show SL X z W S T _ _
          refine sl_lc c.good how ok (iI tg it h.1.1) hg (fun H0 s H C cl fp => .inl ⟨rfl, rfl⟩) (fun H0 s H C cl fp => iE _ _ _ _ (c.blk H0 _ s H scope C cl fp) elt h.2) hs
        · subst hm
          simp only [okE, Bool.and_eq_true] at h
          show SL X z W S T _ _
          refine sl_lc c.good how ok (iI tg it h.1.1) hg (fun H0 s H C cl fp => .inr ⟨_, rfl, iT _ _ _ _ (c.blk H0 _ s H scope C cl fp) _ h.1.2⟩) (fun H0 s H C cl fp => iE _ _ _ _ (c.blk H0 _ s H scope C cl fp) elt h.2) hs
        · subst hm; show SL X z W S T _ _; exact sl_bad
      · subst hm; show SL X z W S T _ _; exact sl_bad
    · subst hm; show SL X z W S T _ _; exact sl_bad
  · subst hm; show SL X z W S T _ _; exact sl_bad
end
/-- THE EXPRESSIONS -/
theorem soundE (g : Cfg) (L : Nat) (S : Sub) (T : Tab) : ∀ k : Nat,
    (∀ sc X z W, Ctx g X z W L S T sc → ∀ e, okE z.own (cE g k sc e) = true → SE X z W S T (cE g k sc e) e) ∧
    (∀ sc X z W, Ctx g X z W L S T sc → ∀ e, okE z.own (cT g k sc e) = true → ST X z W S T (cT g k sc e) e) ∧
    (∀ sc X z W, Ctx g X z W L S T sc → ∀ es, es.all noStar = true → okA z.own (cA g k sc es) = true → SA X z W S T (cA g k sc es) es) ∧
    (∀ sc X z W, Ctx g X z W L S T sc → ∀ tg e, okI z.own (cI g k sc e) = true → SI X z W S T (cI g k sc e) tg e)
  | 0 => by
    refine ⟨fun sc X z W c e h => ?_, fun sc X z W c e h => ?_, fun sc X z W c es hn h => ?_, fun sc X z W c tg e h => ?_⟩
    · simp only [cE]; (show SE X z W S T _ _); exact se_bad
    · simp only [cT]; (show ST X z W S T _ _); exact st_bad
    · simp only [cA]
      intro σ H F G env n Q er p
      exact p.elim
    · simp only [cI]
      intro σ H F G env n Q er p
      exact p.elim
  | k + 1 => by
    obtain ⟨iE, iT, iA, iI⟩ := soundE g L S T k
    refine ⟨fun sc X z W c e h => ?_, fun sc X z W c e h => ?_, fun sc X z W c es hn h => ?_, fun sc X z W c tg e h => ?_⟩
    · have jE := iE sc X z W c
      cases e with
      | Constant co _ _ => simp only [cE]; (show SE X z W S T _ _); exact cConst_ok _ _ _
      | Name x _ => simp only [cE]; (show SE X z W S T _ _); exact cName_ok c _ _
      | BinOp a op b _ =>
        simp only [cE] at h ⊢
        cases hp : opP op with
        | none => (show SE X z W S T _ _); exact se_bad
        | some p =>
          rw [hp] at h
          simp only [okE, Bool.and_eq_true] at h
          (show SE X z W S T _ _); exact se_p2 (opP_ok hp) (jE _ h.1) (jE _ h.2)
      | UnaryOp op a _ =>
        cases op with
        | USub => simp only [cE, okE] at h ⊢; (show SE X z W S T _ _); exact se_neg (jE _ h)
        | Not => simp only [cE, okE] at h ⊢; (show SE X z W S T _ _); exact se_not (jE _ h)
        | _ => simp only [cE]; (show SE X z W S T _ _); exact se_bad
      | BoolOp op es _ => simp only [cE] at h ⊢; (show SE X z W S T _ _); exact cBool_ok jE h
      | Compare a ops es _ => simp only [cE] at h ⊢; (show SE X z W S T _ _); exact (cCmp_ok c.good jE h).1
      | IfExp t a b _ =>
        simp only [cE, okE, Bool.and_eq_true] at h ⊢
        (show SE X z W S T _ _); exact se_ite (iT sc X z W c _ h.1.1) (jE _ h.1.2) (jE _ h.2)
      | Call f es kws pos =>
        cases kws with
        | cons _ _ => cases f <;> (simp only [cE]; (show SE X z W S T _ _); exact se_bad)
        | nil =>
          cases f with
          | Name f _ => simp only [cE] at h ⊢; (show SE X z W S T _ _); exact cCall_ok c jE (iA sc X z W c) h
          | Attribute o m apos => simp only [cE] at h ⊢; (show SE X z W S T _ _); exact cMeth_ok c.good jE h
          | _ => simp only [cE]; (show SE X z W S T _ _); exact se_bad
      | Subscript a b _ => simp only [cE] at h ⊢; (show SE X z W S T _ _); exact cSub_ok c.good.u4 c.good.K jE h
      | Tuple es _ _ =>
        simp only [cE] at h ⊢
        split
        · rename_i hn
          rw [if_pos hn] at h
          (show SE X z W S T _ _); exact se_tup (iA sc X z W c es hn h)
        · (show SE X z W S T _ _); exact se_bad
      | List es _ =>
        simp only [cE] at h ⊢
        split
        · rename_i hn
          rw [if_pos hn] at h
          (show SE X z W S T _ _); exact se_lst (iA sc X z W c es hn h)
        · (show SE X z W S T _ _); exact se_bad
      | ListComp elt gs scope _ => simp only [cE] at h ⊢; (show SE X z W S T _ _); exact SL.se (cLc_ok c (iI sc X z W c) iT iE h)
      | _ => simp only [cE]; (show SE X z W S T _ _); exact se_bad
    · have jE := iE sc X z W c
      have jT := iT sc X z W c
      cases e with
      | UnaryOp op a _ =>
        cases op with
        | Not => simp only [cT, okE] at h ⊢; (show ST X z W S T _ _); exact st_not (jT _ h)
        | _ => simp only [cT, okE] at h ⊢; (show ST X z W S T _ _); exact st_tru c.good.K (fun _ => rfl) (jE _ h)
      | BoolOp op es _ => simp only [cT] at h ⊢; (show ST X z W S T _ _); exact cBoolT_ok jT h
      | Compare a ops es _ => simp only [cT] at h ⊢; (show ST X z W S T _ _); exact (cCmp_ok c.good jE h).2
      | IfExp t a b _ => simp only [cT]; (show ST X z W S T _ _); exact st_bad
      | _ => simp only [cT, okE] at h ⊢; (show ST X z W S T _ _); exact st_tru c.good.K (fun _ => rfl) (jE _ h)
    · cases es with
      | nil => simp only [cA]; (show SA X z W S T _ _); exact sa_nil
      | cons e es =>
        simp only [cA, okA, Bool.and_eq_true] at h ⊢
        simp only [List.all_cons, Bool.and_eq_true] at hn
        (show SA X z W S T _ _); exact sa_cons hn.1 (iE sc X z W c e h.1) (iA sc X z W c es hn.2 h.2)
    · simp only [cI] at h ⊢
      (show SI X z W S T _ _ _); exact cIt_ok c (iE sc X z W c) h
end L2.Ms

namespace L2.Ms
open PySem PySem.Spec PyProof.Rows Mv
/-- since the def's entry: F0 stands, what else is told of is new -/
structure EN (z : Fx) (F G : Hp) : Prop where
  f0 : Le z.F0 F
  nw : ∀ a, G a ≠ none → z.F0 a ≠ none ∨ Fr z.H0 a
/-- at a def's end -/
structure RT (z : Fx) (H G : Hp) (n : Nat) : Prop where
  f0 : Le z.F0 G
  gh : Le G H
  nw : ∀ a, G a ≠ none → z.F0 a ≠ none ∨ Fr z.H0 a
  h0 : ∀ a o, z.H0 a = some o → z.pt ≠ some a → H a = some o
  tw : ∀ a, z.pt = some a → H a = some (.lst (List.replicate n (.int 0))) ∧ G a = none
theorem newV_non {c : Cn} {H F : Hp} : NewV c H F .non .non := ⟨fun _ => none, (fun _ _ e => by cases e), (fun _ _ e => by cases e), .non⟩
def PostS (z : Fx) (W : WX) (D : Ends) (o : SO) : Prop := match o with
  | .nx env' n' => ∀ σ' H' F' G', ER z σ' H' F' G' env' n' → EN z F' G' → D.nx σ' H'
  | .rt d n' => ∀ v H' G', RT z H' G' n' → Rep z.toCn G' v d → (z.own 1000 = 7 → NewV z.toCn z.H0 G' v d) → D.rt v H'
  | .ex c n' env' => ∀ σ' H' F' G', ER z σ' H' F' G' env' n' → EN z F' G' → W (.ref (He.ga z.K c)) none σ' H'
  | .bad => False
section
variable {X : Cx} {z : Fx} {W : WX} {S : Sub} {T : Tab} {σ : St} {H F G H1 F1 G1 : Hp} {env : Ev} {n n1 : Nat} {D : Ends}
theorem ER.fr0 (e : ER z σ H F G env n) {a : Addr} (h : Fr H a) : Fr z.H0 a := by
  rcases h with h | ⟨xs, h⟩
  · exact .inl (e.free0 h)
  · cases q : z.H0 a with
    | none => exact .inl q
    | some o =>
      by_cases hp : z.pt = some a
      · rw [(e.tw a hp).1] at h; cases h
      · rw [e.h0 a o q hp] at h
        exact .inr ⟨xs, by rw [q, h]⟩
theorem EN.step (en : EN z F G) (er : ER z σ H F G env n) (s : Step z H F G H1 F1 G1 n1) : EN z F1 G1 :=
  ⟨en.f0.trans s.ff, fun a h => (s.ng a h).elim (en.nw a) fun q => .inr (er.fr0 q)⟩
theorem ER.rt (er : ER z σ H F G env n) (en : EN z F G) : RT z H G n := ⟨en.f0.trans er.fg, er.gh, en.nw, er.h0, fun a q => ⟨(er.tw a q).1, (er.tw a q).2.1⟩⟩
/-- a statement's case: n, where it ends -/
def SS (X : Cx) (z : Fx) (W : WX) (S : Sub) (T : Tab) (m : MS) (st : Stmt) : Prop := ∀ (σ : St) (H F G : Hp) (env : Ev) (n : Nat) (D : Ends), ER z σ H F G env n → EN z F G → PostS z W D (evS S T m env n) → wS X st D σ H
def SB (X : Cx) (z : Fx) (W : WX) (S : Sub) (T : Tab) (m : MB) (st : List Stmt) : Prop := ∀ (σ : St) (H F G : Hp) (env : Ev) (n : Nat) (D : Ends), ER z σ H F G env n → EN z F G → PostS z W D (evB S T m env n) → wSs X st D σ H
theorem SE.useS {a : ME} {e : Expr} (ha : SE X z W S T a e) (er : ER z σ H F G env n) (en : EN z F G) {f : Mv.D → Nat → SO} {Q1 : VK} (h : PostS z W D (SO.of env (evE S T a env n) f))
    (k : ∀ d n1 v H1 F1 G1, evE S T a env n = .ok d n1 → Step z H F G H1 F1 G1 n1 → ER z σ H1 F1 G1 env n1 → EN z F1 G1 → RepLv z.toCn (lev z.own a) F1 G1 v d → PostS z W D (f d n1) → Q1 v H1) : wE X e σ H Q1 := by
  refine ha er ?_
  cases h1 : evE S T a env n with
  | ok d n1 =>
    rw [h1] at h
    exact fun v H1 F1 G1 st r => k d n1 v H1 F1 G1 h1 st (er.step st) (en.step er st) r h
  | ex c n1 =>
    rw [h1] at h
    exact fun H1 F1 G1 st => h σ H1 F1 G1 (er.step st) (en.step er st)
  | bad =>
    rw [h1] at h
    exact h
theorem ST.useS {a : ME} {e : Expr} (ha : ST X z W S T a e) (er : ER z σ H F G env n) (en : EN z F G) {f : Mv.D → Nat → SO} {Q1 : Bool → Hp → Prop} (h : PostS z W D (SO.of env (evE S T a env n) f)) (hb : ∀ d n, (∀ b, d ≠ .bl b) → f d n = .bad)
    (k : ∀ b n1 H1 F1 G1, evE S T a env n = .ok (.bl b) n1 → Step z H F G H1 F1 G1 n1 → ER z σ H1 F1 G1 env n1 → EN z F1 G1 → PostS z W D (f (.bl b) n1) → Q1 b H1) : wT X e σ H Q1 := by
  refine ha er ?_
  cases h1 : evE S T a env n with
  | ok d n1 =>
    rw [h1] at h
    cases d with
    | bl b => exact fun H1 F1 G1 st => k b n1 H1 F1 G1 h1 st (er.step st) (en.step er st) h
    | _ => simp only [SO.of] at h; rw [hb _ _ (by intro b q; cases q)] at h; exact h
  | ex c n1 =>
    rw [h1] at h
    exact fun H1 F1 G1 st => h σ H1 F1 G1 (er.step st) (en.step er st)
  | bad =>
    rw [h1] at h
    exact h
/-! ### blocks -/
theorem ss_bad {st : Stmt} : SS X z W S T .bad st := fun _ _ _ _ _ _ _ _ _ h => h.elim
theorem sb_nil : SB X z W S T .nil [] := fun σ H F G env n D er en h => pss_nil.w (h σ H F G er en)
theorem sb_cons {s : MS} {b : MB} {st : Stmt} {sts : List Stmt} (hs : SS X z W S T s st) (hb : SB X z W S T b sts) : SB X z W S T (.cons s b) (st :: sts) := fun σ H F G env n D er en h => by
  refine (pss_cons (psW st) (pssW sts)).w (hs σ H F G env n { D with nx := wSs X sts D } er en ?_)
  simp only [evB] at h
  cases h1 : evS S T s env n with
  | nx env1 n1 =>
    rw [h1] at h
    exact fun σ' H' F' G' er' en' => hb σ' H' F' G' env1 n1 D er' en' h
  | rt d n1 => rw [h1] at h; exact h
  | ex c n1 env1 => rw [h1] at h; exact h
  | bad => rw [h1] at h; exact h
theorem ss_ret {e : ME} {ex : Expr} {pos : Pos} (h7 : z.own 1000 ≠ 7) (he : SE X z W S T e ex) : SS X z W S T (.ret e) (.Return (some ex) pos) := fun σ H F G env n D er en h => by
  refine (ps_ret (peW ex)).w (he.useS er en h fun d n1 v H1 F1 G1 _ s1 er1 en1 r1 h1 => ?_)
  exact h1 v H1 G1 (er1.rt en1) (r1.g er1.fg) fun q => absurd q h7
theorem ss_retN {pos : Pos} : SS X z W S T (.ret (.c .non)) (.Return none pos) := fun σ H F G env n D er en h => ps_retN.w (h .non H G (er.rt en) .non fun _ => newV_non)
theorem swapsNone {e : Expr} {l : Nat} {env : Env} (h : (match e with | .ListComp .. => false | .SetComp .. => false | .DictComp .. => false | _ => true) = true) (t : Option Expr) : swapsWith e t l env = pure false := by
  cases e <;> first | rfl | (simp at h)
theorem ss_ex {e : ME} {ex : Expr} {pos : Pos} (hc : (match ex with | .ListComp .. => false | .SetComp .. => false | .DictComp .. => false | _ => true) = true) (he : SE X z W S T e ex) : SS X z W S T (.ex e) (.Expr ex pos) := fun σ H F G env n D er en h => by
  refine (ps_expr (peW ex) (swapsNone hc none)).w (he.useS er en h fun d n1 v H1 F1 G1 _ s1 er1 en1 r1 h1 => ?_)
  exact h1 σ H1 F1 G1 er1 en1
theorem ss_if {t : ME} {a b : MB} {e : Expr} {as bs : List Stmt} {pos : Pos} (ht : ST X z W S T t e) (ha : SB X z W S T a as) (hb : SB X z W S T b bs) : SS X z W S T (.if_ t a b) (.If e as bs pos) := fun σ H F G env n D er en h => by
  refine (ps_if (ptW e) (pssW as) (pssW bs)).w (ht.useS er en h (fun d n hd => by cases d <;> first | rfl | exact absurd rfl (hd _)) fun c n1 H1 F1 G1 _ s1 er1 en1 h1 => ?_)
  cases c with
  | true => rw [if_pos rfl]; exact ha _ _ _ _ _ _ _ er1 en1 h1
  | false => rw [if_neg Bool.false_ne_true]; exact hb _ _ _ _ _ _ _ er1 en1 h1
/-! ### names are set -/
/-- a slot holds nothing any more -/
theorem ER.kill {i : Nat} (er : ER z σ H F G env n) : ER z σ H F G (env.set i none) n where
  fg := er.fg
  gh := er.gh
  h0 := er.h0
  tw := er.tw
  val := fun j e he hj => by
    by_cases q : i = j
    · subst q
      by_cases hlt : i < env.length
      · rw [List.getElem?_set_self hlt] at he; cases he
      · rw [List.getElem?_eq_none (by simpa using hlt)] at he; cases he
    · rw [List.getElem?_set_ne q] at he; exact er.val j e he hj
  ow := fun j e he hj => by
    by_cases q : i = j
    · subst q
      by_cases hlt : i < env.length
      · rw [List.getElem?_set_self hlt] at he; cases he
      · rw [List.getElem?_eq_none (by simpa using hlt)] at he; cases he
    · rw [List.getElem?_set_ne q] at he; exact er.ow j e he hj
  ow2 := fun j e he hj => by
    by_cases q : i = j
    · subst q
      by_cases hlt : i < env.length
      · rw [List.getElem?_set_self hlt] at he; cases he
      · rw [List.getElem?_eq_none (by simpa using hlt)] at he; cases he
    · rw [List.getElem?_set_ne q] at he; exact er.ow2 j e he hj
  dis := fun j k d e p p' a hne hj hk h1 h2 h3 => by
    have q1 : i ≠ j := fun q => by
      subst q
      by_cases hlt : i < env.length
      · rw [List.getElem?_set_self hlt] at h1; cases h1
      · rw [List.getElem?_eq_none (by simpa using hlt)] at h1; cases h1
    have q2 : i ≠ k := fun q => by
      subst q
      by_cases hlt : i < env.length
      · rw [List.getElem?_set_self hlt] at h2; cases h2
      · rw [List.getElem?_eq_none (by simpa using hlt)] at h2; cases h2
    rw [List.getElem?_set_ne q1] at h1
    rw [List.getElem?_set_ne q2] at h2
    exact er.dis j k d e p p' a hne hj hk h1 h2 h3
  len := by simp [er.len]
/-- .. in the frame too -/
theorem ER.gone {i : Nat} (er : ER z σ H F G env n) : ER z (σ.set i none) H F G (env.set i none) n := by
  have k := er.kill (i := i)
  have ne : ∀ (j : Nat) d, (env.set i none)[j]? = some (some d) → i ≠ j := fun j d h q => by
    subst q
    by_cases hlt : i < env.length
    · rw [List.getElem?_set_self hlt] at h; cases h
    · rw [List.getElem?_eq_none (by simpa using hlt)] at h; cases h
  refine ⟨k.fg, k.gh, k.h0, k.tw, fun j e he hj => ?_, fun j e he hj => ?_, fun j e he hj => ?_, fun j l d e p p' a hne hj hl h1 h2 h3 h4 => ?_, by simp [er.len]⟩
  · rw [List.getElem?_set_ne (ne j e he)]; exact k.val j e he hj
  · rw [List.getElem?_set_ne (ne j e he)]; exact k.ow j e he hj
  · rw [List.getElem?_set_ne (ne j e he)]; exact k.ow2 j e he hj
  · rw [List.getElem?_set_ne (ne j d h1)] at h3
    rw [List.getElem?_set_ne (ne l e h2)] at h4
    exact k.dis j l d e p p' a hne hj hl h1 h2 h3 h4
theorem set_live {i j : Nat} {x : Option Mv.D} {d : Mv.D} (h : (env.set i x)[j]? = some (some d)) : (i = j ∧ x = some d ∧ i < env.length) ∨ (i ≠ j ∧ env[j]? = some (some d)) := by
  by_cases q : i = j
  · subst q
    have hlt : i < env.length := by simpa using (List.getElem?_eq_some_iff.mp h).1
    rw [List.getElem?_set_self hlt] at h
    exact .inl ⟨rfl, by simpa using h, hlt⟩
  · rw [List.getElem?_set_ne q] at h
    exact .inr ⟨q, h⟩
theorem RowsL.off {z : Cn} {F G : Hp} {vs : List V} {ds : List Mv.D} {p : Addr} {o : HO} (r : RowsL z F G vs ds) (h : V.ref p ∉ vs) : RowsL z F (upd G p o) vs ds :=
  r.mono .rfl fun q us m c f => ⟨by rw [upd_ne (show q ≠ p from fun e => by subst e; exact h m)]; exact c, f⟩
/-- another own slot does not feel a change at p, which it has not -/
theorem Owns.off {p q a : Addr} {m : Nat} {o : HO} (h : q ≠ p) (w : Owns (upd G p o) q m a) : Owns G q m a := by
  rcases w with rfl | ⟨h2, us, g, x⟩
  · exact .inl rfl
  · rw [upd_ne h] at g; exact .inr ⟨h2, us, g, x⟩
/-- an own slot is set anew: all that is wanted of its thing -/
theorem ER.setW {i : Nat} {p : Addr} {o : HO} {d0 : Mv.D} {H' : Hp} (er : ER z σ H F G env n) (ho : z.own i ≠ 0) (hgh : Le (upd G p o) H') (hh0 : ∀ a o, z.H0 a = some o → z.pt ≠ some a → H' a = some o) (htw : ∀ a, z.pt = some a → H' a = some (.lst (List.replicate n (.int 0))) ∧ (upd G p o) a = none ∧ z.H0 a ≠ none)
    (hf : F p = none) (r1 : z.own i = 1 → OwnV z.toCn F (upd G p o) p d0) (r2 : 2 ≤ z.own i → ∃ vs ds, o = .lst vs ∧ d0 = .lst ds ∧ RowsL z.toCn F (upd G p o) vs ds ∧ V.ref p ∉ vs)
    (hx : ∀ j e q a, i ≠ j → env[j]? = some (some e) → z.own j ≠ 0 → σ[j]? = some (some (.ref q)) → Owns G q (z.own j) a → a ≠ p ∧ (2 ≤ z.own i → ∀ vs, o = .lst vs → V.ref a ∉ vs)) :
    ER z (σ.set i (some (.ref p))) H' F (upd G p o) (env.set i (some d0)) n where
  fg := er.fg.right hf
  gh := hgh
  h0 := hh0
  tw := htw
  val := fun j e he hj => by
    have q : i ≠ j := fun q => by subst q; exact ho hj
    rw [List.getElem?_set_ne q] at he ⊢
    exact er.val j e he hj
  ow := fun j e he hj => by
    rcases set_live he with ⟨rfl, e1, hlt⟩ | ⟨q, he⟩
    · cases e1
      exact ⟨p, by rw [List.getElem?_set_self (by rw [← er.len]; exact hlt)], hf, r1 hj⟩
    · rw [List.getElem?_set_ne q]
      obtain ⟨p', a2, a4, w⟩ := er.ow j e he hj
      have := (hx j e p' p' q he (by omega) a2 (.inl rfl)).1
      exact ⟨p', a2, a4, w.mono .rfl fun u e => by rw [upd_ne this]; exact e⟩
  ow2 := fun j e he hj => by
    rcases set_live he with ⟨rfl, e1, hlt⟩ | ⟨q, he⟩
    · cases e1
      obtain ⟨vs, ds, rfl, rfl, x1, x2⟩ := r2 hj
      exact ⟨p, vs, ds, rfl, by rw [List.getElem?_set_self (by rw [← er.len]; exact hlt)], upd_same, hf, x1, x2⟩
    · rw [List.getElem?_set_ne q]
      obtain ⟨p', vs', ds', a1, a2, a3, a4, a5, a6⟩ := er.ow2 j e he hj
      have := (hx j e p' p' q he (by omega) a2 (.inl rfl)).1
      exact ⟨p', vs', ds', a1, a2, by rw [upd_ne this]; exact a3, a4, a5.off fun m => (hx j e p' p q he (by omega) a2 (.inr ⟨hj, vs', a3, m⟩)).1 rfl, a6⟩
  dis := fun j k d e p1 p2 a hne hj hk h1 h2 h3 h4 w1 w2 => by
    have key : ∀ (k : Nat) e p2, i ≠ k → env[k]? = some (some e) → z.own k ≠ 0 → σ[k]? = some (some (.ref p2)) → Owns (upd G p o) p (z.own i) a → Owns (upd G p o) p2 (z.own k) a → False := fun k e p2 q hk1 hk2 hk3 x1 x2 => by
      have ne := (hx k e p2 p2 q hk1 hk2 hk3 (.inl rfl)).1
      have x3 := hx k e p2 a q hk1 hk2 hk3 (x2.off ne)
      rcases x1 with rfl | ⟨y1, us, y2, y3⟩
      · exact x3.1 rfl
      · rw [upd_same] at y2; cases y2
        exact x3.2 y1 _ rfl y3
    rcases set_live h1 with ⟨rfl, e1, hlt⟩ | ⟨q, h1⟩
    · rw [List.getElem?_set_self (by rw [← er.len]; exact hlt)] at h3
      cases h3
      rcases set_live h2 with ⟨rfl, _⟩ | ⟨q, h2⟩
      · exact hne rfl
      · rw [List.getElem?_set_ne q] at h4
        exact key k e p2 q h2 hk h4 w1 w2
    · rw [List.getElem?_set_ne q] at h3
      rcases set_live h2 with ⟨rfl, e1, hlt⟩ | ⟨q2, h2⟩
      · rw [List.getElem?_set_self (by rw [← er.len]; exact hlt)] at h4
        cases h4
        exact key j d p1 q h1 hj h3 w2 w1
      · rw [List.getElem?_set_ne q2] at h4
        exact er.dis j k d e p1 p2 a hne hj hk h1 h2 h3 h4 (w1.off (hx j d p1 p1 q h1 hj h3 (.inl rfl)).1) (w2.off (hx k e p2 p2 q2 h2 hk h4 (.inl rfl)).1)
  len := by simp [er.len]
/-- .. of its list -/
theorem ER.setG {i : Nat} {p : Addr} {vs : List V} {ds : List Mv.D} {H' : Hp} (er : ER z σ H F G env n) (ho : z.own i ≠ 0) (hgh : Le (upd G p (.lst vs)) H') (hh0 : ∀ a o, z.H0 a = some o → z.pt ≠ some a → H' a = some o) (htw : ∀ a, z.pt = some a → H' a = some (.lst (List.replicate n (.int 0))) ∧ (upd G p (.lst vs)) a = none ∧ z.H0 a ≠ none)
    (hf : F p = none) (r1 : z.own i = 1 → RepL z.toCn F vs ds) (r2 : 2 ≤ z.own i → RowsL z.toCn F (upd G p (.lst vs)) vs ds ∧ V.ref p ∉ vs)
    (hx : ∀ j e q a, i ≠ j → env[j]? = some (some e) → z.own j ≠ 0 → σ[j]? = some (some (.ref q)) → Owns G q (z.own j) a → a ≠ p ∧ (2 ≤ z.own i → V.ref a ∉ vs)) :
    ER z (σ.set i (some (.ref p))) H' F (upd G p (.lst vs)) (env.set i (some (.lst ds))) n :=
  er.setW ho hgh hh0 htw hf (fun q => ⟨vs, upd_same, r1 q⟩) (fun q => ⟨vs, ds, rfl, rfl, (r2 q).1, (r2 q).2⟩) fun j e q a h1 h2 h3 h4 h5 => ⟨(hx j e q a h1 h2 h3 h4 h5).1, fun q us e => by cases e; exact (hx j _ _ a h1 h2 h3 h4 h5).2 q⟩
/-- a new thing of one's own -/
theorem ER.setOwnW {i : Nat} {p : Addr} {o : HO} {d0 : Mv.D} (er : ER z σ H F G env n) (ho : z.own i = 1) (hp : H p = some o) (m : Mut (some o)) (hg : G p = none) (ht : z.pt ≠ some p) (r : OwnV z.toCn F (upd G p o) p d0) :
    ER z (σ.set i (some (.ref p))) H F (upd G p o) (env.set i (some d0)) n := by
  refine er.setW (by omega) (fun a u e => ?_) er.h0 (fun a q => ?_) (er.fg.non hg) (fun _ => r) (fun q => by omega) fun j e q a hne he hj hs w => ⟨fun e1 => ?_, fun q => by omega⟩
  · by_cases q : a = p
    · subst q; rw [upd_same] at e; cases e; exact hp
    · rw [upd_ne q] at e; exact er.gh a u e
  · have e : a ≠ p := fun e => ht (e ▸ q)
    rw [upd_ne e]; exact er.tw a q
  · subst e1
    obtain ⟨us, g, _⟩ := er.ownsCell he hj hs w
    rw [hg] at g; cases g
/-- a new list of one's own -/
theorem ER.setOwn {i : Nat} {p : Addr} {vs : List V} {ds : List Mv.D} (er : ER z σ H F G env n) (ho : z.own i = 1) (hp : H p = some (.lst vs)) (hg : G p = none) (ht : z.pt ≠ some p) (r : RepL z.toCn F vs ds) :
    ER z (σ.set i (some (.ref p))) H F (upd G p (.lst vs)) (env.set i (some (.lst ds))) n := er.setOwnW ho hp trivial hg ht ⟨vs, upd_same, r⟩
theorem EN.own {p : Addr} {o : HO} (en : EN z F G) (h0 : z.H0 p = none) : EN z F (upd G p o) := ⟨en.f0, fun a h => by
  by_cases q : a = p
  · subst q; exact .inr (.inl h0)
  · rw [upd_ne q] at h; exact en.nw a h⟩
theorem EN.own0 {p : Addr} {o : HO} (en : EN z F G) (er : ER z σ H F G env n) (hg : G p = some o) (m : Mut (some o)) (hf : F p = none) : z.H0 p = none := by
  rcases en.nw p (by rw [hg]; simp) with h | h
  · exact absurd hf (en.f0.has h)
  · rcases h with h | ⟨xs, h⟩
    · exact h
    · refine (Fr.mut (H := H) (a := p) (.inr ⟨xs, er.h0 p _ h fun q => ?_⟩) (er.gh _ _ hg) m).elim
      rw [(er.tw p q).2.1] at hg; cases hg
/-- a thing of one's own is changed -/
theorem ER.mutW {i : Nat} {p : Addr} {o u : HO} {d0 d1 : Mv.D} (er : ER z σ H F G env n) (en : EN z F G) (ho : z.own i = 1) (he : env[i]? = some (some d0)) (hσ : σ[i]? = some (some (.ref p))) (hg : G p = some o) (m : Mut (some o)) (hf : F p = none) (r : OwnV z.toCn F (upd G p u) p d1) :
    ER z σ (upd H p u) F (upd G p u) (env.set i (some d1)) n ∧ EN z F (upd G p u) := by
  have ht : ∀ a, z.pt = some a → a ≠ p := fun a q e => by subst e; rw [(er.tw a q).2.1] at hg; cases hg
  have h0 := en.own0 er hg m hf
  have e := er.setW (H' := upd H p u) (p := p) (o := u) (d0 := d1) (i := i) (by omega) er.gh.both (fun a o h q => by rw [upd_ne (ne_of_none h h0)]; exact er.h0 a o h q) (fun a q => by rw [upd_ne (ht a q), upd_ne (ht a q)]; exact er.tw a q) hf (fun _ => r) (fun q => by omega)
    fun j e q a hne hj ho2 hs w => ⟨fun e1 => by subst e1; exact er.dis i j _ _ a q a hne (by omega) ho2 he hj hσ hs (.inl rfl) w, fun q => by omega⟩
  have es : σ.set i (some (.ref p)) = σ := by
    obtain ⟨h1, h2⟩ := List.getElem?_eq_some_iff.mp hσ
    rw [← h2]
    exact List.set_getElem_self h1
  rw [es] at e
  exact ⟨e, en.own h0⟩
/-- a list of one's own is changed -/
theorem ER.mut {i : Nat} {p : Addr} {vs us : List V} {ds es : List Mv.D} (er : ER z σ H F G env n) (en : EN z F G) (ho : z.own i = 1) (he : env[i]? = some (some (.lst ds))) (hσ : σ[i]? = some (some (.ref p))) (hg : G p = some (.lst vs)) (hf : F p = none) (r : RepL z.toCn F us es) :
    ER z σ (upd H p (.lst us)) F (upd G p (.lst us)) (env.set i (some (.lst es))) n ∧ EN z F (upd G p (.lst us)) := er.mutW en ho he hσ hg trivial hf ⟨us, upd_same, r⟩
end
end L2.Ms

namespace L2.Ms
open PySem PySem.Spec PyProof.Rows Mv
def noComp : Expr → Bool
  | .ListComp .. => false
  | .SetComp .. => false
  | .DictComp .. => false
  | _ => true
theorem swaps0 {e : Expr} {l : Nat} {env : Env} (h : noComp e = true) (t : Option Expr) : swapsWith e t l env = pure false := by
  cases e <;> first | rfl | (simp [noComp] at h)
section
variable {X : Cx} {z : Fx} {W : WX} {S : Sub} {T : Tab} {σ : St} {H F G H1 F1 G1 : Hp} {env : Ev} {n n1 : Nat} {D : Ends}
/-- an expression that may go to a name -/
def SN (X : Cx) (z : Fx) (W : WX) (S : Sub) (T : Tab) (me : ME) (e : Expr) : Prop := (∃ elt gs scope q, e = .ListComp elt gs scope q ∧ SL X z W S T me e) ∨ (noComp e = true ∧ SE X z W S T me e)
/-- x = e, by e's reading -/
theorem set_rule {e : Expr} {i : Nat} {x : Str} {p pos : Pos} {me : ME} (hl : SN X z W S T me e) (hN : X.N.Nodup) (hi : X.N[i]? = some x) (hx : Loc X.env.scope x) (hf : X.fn x = true ∨ X.env.scope.names.lookup x = some .local) :
    ∃ t : TE, PS X (.Assign [.Name x p] e pos) (tAsg t (gName i)) ∧ (∀ (σ : St) (H F G : Hp) (env : Ev) (n : Nat) (Q : VK), ER z σ H F G env n → PostE z W σ H F G (lev z.own me) (evE S T me env n) Q → t σ H Q) := by
  rcases hl with ⟨elt, gs, scope, q, rfl, t, h1, h2, h3, _⟩ | ⟨hc, hs⟩
  · refine ⟨t, ?_, h3⟩
    have e1 : swapsWith (.ListComp elt gs scope q) (some (.Name x p)) pos.line X.env = pure (X.env.blockKind == .function && X.env.kindOf x == some .local && p.line == q.line && !(scope.names.any fun (n, k) => n == x && (k == .local || k == .cell))) := rfl
    cases hb : (X.env.blockKind == .function && X.env.kindOf x == some .local && p.line == q.line && !(scope.names.any fun (n, k) => n == x && (k == .local || k == .cell))) with
    | true =>
      rw [hb] at e1
      have hloc : X.env.scope.names.lookup x = some .local := by
        simp only [Bool.and_eq_true] at hb
        exact beq_iff_eq.mp hb.1.1.2
      exact h2 i x p pos hi hloc e1
    | false =>
      rw [hb] at e1
      exact ps_set hN hi hx h1 e1 hf
  · exact ⟨wE X e, ps_set hN hi hx (peW e) (swaps0 hc _) hf, fun σ H F G env n Q er p => hs er p⟩
theorem ss_set {e : Expr} {i : Nat} {x : Str} {p pos : Pos} {me : ME} (hl : SN X z W S T me e) (hN : X.N.Nodup) (hi : X.N[i]? = some x) (hx : Loc X.env.scope x) (hf : X.fn x = true ∨ X.env.scope.names.lookup x = some .local) (ho : z.own i = 0) (h2 : 2 ≤ lev z.own me) :
    SS X z W S T (.set i me) (.Assign [.Name x p] e pos) := fun σ H F G env n D er en h => by
  obtain ⟨t, ht, hr⟩ := set_rule (p := p) (pos := pos) hl hN hi hx hf
  refine ht.w (hr σ H F G env n _ er ?_)
  simp only [evS] at h
  cases h1 : evE S T me env n with
  | ok d n1 =>
    rw [h1] at h
    intro v H1 F1 G1 st r
    exact h _ H1 F1 G1 ((er.step st).set ho (r.two h2)) (en.step er st)
  | ex c n1 =>
    rw [h1] at h
    exact fun H1 F1 G1 st => h σ H1 F1 G1 (er.step st) (en.step er st)
  | bad => rw [h1] at h; exact h
/-- raise C('..') -/
theorem ss_rais {g : Cfg} {L : Nat} {sc : Scope} (c : Ctx g X z W L S T sc) {x m : Str} {j : Nat} {p p2 pos pos2 : Pos} (hx : x ∈ g.ec) (hg : sc.names.lookup x = some .globalImplicit) (hd : (x == ("__debug__" : Str)) = false) :
    SS X z W S T (.rais x) (.Raise (some (.Call (.Name x p) [.Constant (.str m) j p2] [] pos)) none pos2) := fun σ H F G env n D er en h => by
  obtain ⟨h1, h2, h3⟩ := c.mf.excI x hx
  refine (ps_raise c.good.calm c.good.tk (pmk_own PySem.F.excBase_ValueError h1 (c.mf.excG x hx) h2 (raises_own (c.mf.excC x hx).hs h3) (c.gl hg) hd)).w ?_
  have := h σ H F G er en
  rw [← c.good.K] at this
  exact this
/-- the same from a later start -/
def Fx.re (z : Fx) (F : Hp) : Fx := { z with F0 := F }
theorem ER.re {F0 : Hp} (er : ER z σ H F G env n) : ER (z.re F0) σ H F G env n := ⟨er.fg, er.gh, er.h0, er.tw, er.val, er.ow, er.ow2, er.dis, er.len⟩
theorem ER.unre {F0 : Hp} (er : ER (z.re F0) σ H F G env n) : ER z σ H F G env n := ⟨er.fg, er.gh, er.h0, er.tw, er.val, er.ow, er.ow2, er.dis, er.len⟩
theorem EN.unre {F' G' : Hp} (en : EN z F1 G1) (l : Le F1 G1) (e : EN (z.re F1) F' G') : EN z F' G' := ⟨en.f0.trans e.f0, fun a h => (e.nw a h).elim (fun q => en.nw a (l.has q)) .inr⟩
theorem EN.start (en : EN z F1 G1) (l : Le F1 F) (en2 : EN z F G) : EN (z.re F1) F G := ⟨l, fun a h => (en2.nw a h).elim (fun q => .inl ((show Le z.F0 F1 from en.f0).has q)) .inr⟩
theorem RT.unre {n' : Nat} (en : EN z F1 G1) (l : Le F1 G1) (e : RT (z.re F1) H G n') : RT z H G n' := ⟨en.f0.trans e.f0, e.gh, fun a h => (e.nw a h).elim (fun q => en.nw a (l.has q)) .inr, e.h0, e.tw⟩
theorem PostS.re (en : EN z F1 G1) (l : Le F1 G1) {o : SO} {f : Ev → Nat → SO} {N : L2.St → Hp → Prop} (h : PostS z W D (o.then f))
    (k : ∀ env' n' σ' H' F' G', o = .nx env' n' → ER z σ' H' F' G' env' n' → EN z F' G' → Le F1 F' → PostS z W D (f env' n') → N σ' H') (D' : Ends) (hr : D'.rt = D.rt) (hn : D'.nx = N) : PostS (z.re F1) W D' o := by
  cases o with
  | nx env' n' => exact fun σ' H' F' G' er en' => by rw [hn]; exact k env' n' σ' H' F' G' rfl er.unre (en.unre l en') en'.f0 h
  | rt d n' => exact fun v H' G' rt r fr => by rw [hr]; exact h v H' G' (RT.unre en l rt) r fr
  | ex c n' env' => exact fun σ' H' F' G' er en' => h σ' H' F' G' er.unre (en.unre l en')
  | bad => exact h
/-- for .. in .. -/
theorem ss_for {g : Cfg} {L : Nat} {sc : Scope} (c : Ctx g X z W L S T sc) {tg : List Nat} {mi : MI} {b : MB} {tgE itE : Expr} {bs : List Stmt} {pos : Pos} (hi : SI X z W S T mi tgE itE) (h2 : 2 ≤ levI z.own mi) (hg : PG X tgE (gOf X.K tg)) (ho : ∀ i ∈ tg, z.own i = 0) (hb : ∀ F0, SB X (z.re F0) W S T b bs)
    (hs : ∀ x, foldedSetIterable itE X.env x = pure x) : SS X z W S T (.for_ tg mi b) (.For tgE itE bs [] pos) := fun σ H F G env n D er en h => by
  refine (ps_for c.good.po c.good.calm (piW tgE itE) hg (pssW bs) hs).w (hi er ?_)
  simp only [evS] at h
  cases h1 : evI S T mi env n with
  | ex c n1 => rw [h1] at h; exact fun H1 F1 G1 st => h σ H1 F1 G1 (er.step st) (en.step er st)
  | bad => rw [h1] at h; exact h
  | ok xs n1 =>
    rw [h1] at h
    have h : PostS z W D (forL tg (evB S T b) xs env n1) := h
    intro J H1 F1 G1 s1 wk hlen
    rw [if_pos (decide_eq_true h2)] at wk
    let Wp : Nat → Nat → St → Hp → Prop := fun i m σ2 H2 => m = xs.length - i ∧ i ≤ xs.length ∧ ∃ F2 G2 env2 n2, ER z σ2 H2 F2 G2 env2 n2 ∧ EN z F2 G2 ∧ Le F1 F2 ∧ PostS z W D (forL tg (evB S T b) (xs.drop i) env2 n2)
    refine ⟨Wp, ⟨xs.length, by simp, Nat.zero_le _, F1, G1, env, n1, er.step s1, en.step er s1, .rfl, by simpa using h⟩, ?_⟩
    rintro i m σ2 H2 ⟨rfl, hi, F2, G2, env2, n2, er2, en2, l2, p2⟩
    have leA : Le F1 H2 := (l2.trans er2.fg).trans er2.gh
    by_cases hlt : i < xs.length
    · refine .inr ⟨wk.go i H2 leA hlt, fun σ' H' => Wp (i + 1) (xs.length - (i + 1)) σ' H', fun σ' H' p => ⟨_, by omega, p⟩, fun x H' y => ?_⟩
      obtain ⟨rfl, d, hd, rx⟩ := wk.yld i H2 x _ leA hlt y
      have hdrop : xs.drop i = d :: xs.drop (i + 1) := by
        rw [List.drop_eq_getElem_cons hlt]
        rw [List.getElem?_eq_getElem hlt] at hd
        cases hd
        rfl
      rw [hdrop] at p2
      simp only [forL] at p2
      cases hb1 : bindT tg d env2 with
      | none => rw [hb1] at p2; exact p2.elim
      | some env3 =>
        rw [hb1] at p2
        refine gOf_ok c.good.K er2 ho (rx.mono l2) hb1 fun σ3 er3 _ _ => ?_
        have p2 : PostS z W D ((evB S T b env3 n2).then fun env2 n2 => forL tg (evB S T b) (xs.drop (i + 1)) env2 n2) := p2
        have en1 := en.step er s1
        refine hb F1 σ3 H' F2 G2 env3 n2 _ er3.re (en1.start l2 en2) ?_
        exact PostS.re en1 s1.fg p2 (fun env' n' σ' H' F' G' _ er' en' l' p' => ⟨rfl, hlt, F', G', env', n', er', en', l', p'⟩) _ rfl rfl
    · refine .inl ⟨wk.stop i H2 leA (by omega), ?_⟩
      have e0 : xs.drop i = [] := List.drop_eq_nil_of_le (by omega)
      rw [e0] at p2
      exact p2 σ2 H2 F2 G2 er2 en2
/-- while .. -/
theorem ss_whl {g : Cfg} {L : Nat} {sc : Scope} (c : Ctx g X z W L S T sc) {f : Nat} {t : ME} {b : MB} {e : Expr} {bs : List Stmt} {pos : Pos} (ht : ST X z W S T t e) (hb : SB X z W S T b bs) : SS X z W S T (.whl f t b) (.While e bs [] pos) := fun σ H F G env n D er en h => by
  refine (ps_while c.good.po (ptW e) (pssW bs)).w ?_
  simp only [evS] at h
  refine ⟨fun m σ2 H2 => ∃ F2 G2 env2 n2, ER z σ2 H2 F2 G2 env2 n2 ∧ EN z F2 G2 ∧ PostS z W D (whlL (evE S T t) (evB S T b) m env2 n2), ⟨f, F, G, env, n, er, en, h⟩, ?_⟩
  rintro m σ2 H2 ⟨F2, G2, env2, n2, er2, en2, p2⟩
  cases m with
  | zero => exact p2.elim
  | succ m =>
    refine ht.useS er2 en2 (D := D) (f := fun d n => match d with
      | .bl true => (evB S T b env2 n).then fun env2 n2 => whlL (evE S T t) (evB S T b) m env2 n2
      | .bl false => .nx env2 n
      | _ => .bad) p2 (fun d n hd => by cases d <;> first | rfl | exact absurd rfl (hd _)) fun c n3 H3 F3 G3 _ s3 er3 en3 h3 => ?_
    cases c with
    | false => rw [if_neg Bool.false_ne_true]; exact h3 σ2 H3 F3 G3 er3 en3
    | true =>
      rw [if_pos rfl]
      refine ⟨fun σ' H' => ∃ F2 G2 env2 n2, ER z σ' H' F2 G2 env2 n2 ∧ EN z F2 G2 ∧ PostS z W D (whlL (evE S T t) (evB S T b) m env2 n2), fun σ' H' q => ⟨m, Nat.lt_succ_self m, q⟩, hb σ2 H3 F3 G3 env2 n3 _ er3 en3 ?_⟩
      have h3 : PostS z W D ((evB S T b env2 n3).then fun env2 n2 => whlL (evE S T t) (evB S T b) m env2 n2) := h3
      cases ho : evB S T b env2 n3 with
      | nx env' n' => rw [ho] at h3; exact fun σ' H' F' G' er' en' => ⟨F', G', env', n', er', en', h3⟩
      | rt d n' => rw [ho] at h3; exact h3
      | ex c n' env' => rw [ho] at h3; exact h3
      | bad => rw [ho] at h3; exact h3
/-- town.append(0) -/
theorem ss_tick {i : Nat} {x : Str} {p p2 apos pos pos2 : Pos} {j : Nat} (hi : X.N[i]? = some x) (hv : Vis X.env.scope x) (hd : (x == ("__debug__" : Str)) = false) (hd2 : (x == ("__classdict__" : Str)) = false) (hline : (apos.endLine == pos.line) = true) (ho : z.own i = 0) :
    SS X z W S T (.tick i) (.Expr (.Call (.Attribute (.Name x p) "append" apos) [.Constant (.int 0) j p2] [] pos) pos2) := fun σ H F G env n D er en h => by
  simp only [evS] at h
  split at h
  · rename_i he
    split at h
    · rename_i hn
      obtain ⟨v, hσ, r⟩ := er.val i _ he ho
      cases r with
      | @town a hp =>
        refine (ps_expr (pe_bm PySem.F.plainAttrs_list PySem.F.slot_list_append PySem.F.type_list_append mt_append (pe_var hi hv hd hd2) (pa_cons pe_int pa_nil) rfl rfl hline rfl rfl)).w ?_
        obtain ⟨t1, t2, t3⟩ := er.tw a hp
        refine ⟨_, hσ, .inl ⟨rfl, _, SqL.of t1⟩, a, _, _, rfl, rfl, t1, by rw [List.length_replicate, ← line_eq]; exact hn, ?_⟩
        have e1 : List.replicate n (V.int 0) ++ [V.int 0] = List.replicate (n + 1) (V.int 0) := by rw [List.replicate_succ']
        rw [e1]
        refine h σ _ F G ⟨er.fg, er.gh.right t2, fun b o hb q => ?_, fun b q => ?_, er.val, er.ow, er.ow2, er.dis, er.len⟩ en
        · rw [upd_ne (fun e => q (by rw [hp, e]))]; exact er.h0 b o hb q
        · rw [hp] at q
          cases q
          exact ⟨upd_same, t2, t3⟩
    · exact h.elim
  · exact h.elim
end
end L2.Ms

namespace L2.Ms
open PySem PySem.Spec PyProof.Rows Mv
/-! ### a caught error that is kept in a name -/
section
variable {X : Cx} {pins : List (Addr × Obj)} {σ : St} {H : Hp} {s : Shared}
/-- a pinned object is tracked from now on -/
theorem track {a : Addr} {oe : Obj} {φ : Heap → Prop} (I : Inv X ((a, oe) :: pins) σ H s) (new : X.s_0.heap.get? a = none) (far : ∀ p ∈ X.pn ++ pins, p.1 ≠ a) (hφ : φ s.heap) (keep : ∀ h1 h2 : Heap, φ h1 → (∀ o, h1.get? a = some o → h2.get? a = some o) → φ h2) :
    Inv X pins σ (upd H a (.ext φ)) s := by
  have here := I.pin (a, oe) (List.mem_append_right _ List.mem_cons_self)
  have ha : s.heap.get? a = some oe := here.1
  have free : H a = none := here.2.1
  have ne0 : ∀ b o, X.s_0.heap.get? b = some o → b ≠ a := fun b o e q => by rw [q, new] at e; cases e
  have neH : ∀ b u, H b = some u → b ≠ a := fun b u e q => by rw [q, free] at e; cases e
  refine ⟨I.ok, I.os, I.bare, ⟨I.base.keep, I.base.slot, fun b o e n hx => ?_, I.base.there, fun b xs e => ?_, fun b o u e => ?_, fun b ps e => ?_⟩, I.loc, I.cell, ?_, fun x c e => ?_, fun p hp => ?_, fun b u e => ?_, I.len⟩
  · rw [upd_ne (ne0 b o e)]; exact I.base.free b o e n hx
  · have q := I.base.tups b xs e
    rw [upd_ne (neH b _ q)]; exact q
  · have q := I.base.frzs b o u e
    rw [upd_ne (neH b _ q)]; exact q
  · obtain ⟨more, q⟩ := I.base.tbls b ps e
    exact ⟨more, by rw [upd_ne (neH b _ q)]; exact q⟩
  · rw [upd_ne (Ne.symm here.2.2.1)]; exact I.free
  · have hc : c ≠ a := fun q => by
      obtain ⟨v, o, ho, hd⟩ := I.cell x c e
      rw [q, ha] at ho
      cases ho
      exact here.2.2.2.2 v hd
    rw [upd_ne hc]; exact I.freeC x c e
  · obtain ⟨e1, e2, e3⟩ := I.pin p (by
      rcases List.mem_append.mp hp with q | q
      · exact List.mem_append_left _ q
      · exact List.mem_append_right _ (List.mem_cons_of_mem _ q))
    exact ⟨e1, by rw [upd_ne (far p hp)]; exact e2, e3⟩
  · by_cases hb : b = a
    · subst hb
      rw [upd_same] at e
      cases e
      exact ⟨hφ, ⟨oe, ha⟩, keep⟩
    · rw [upd_ne hb] at e
      exact (I.hok b u e).stay (fun _ _ _ q => q) (fun c q => by rw [upd_ne (neH c _ q)]; exact q) fun c xs q => by rw [upd_ne (neH c _ q)]; exact q
end
/-- what a caught error is, by its class's value -/
def excAt (cls : Value) (a : Addr) (h : Heap) : Prop := ∃ o vs, h.get? a = some o ∧ o.cls = cls ∧ o.dict = none ∧ o.data = .fields vs
theorem excAt_keep {cls : Value} {a : Addr} : ∀ h1 h2 : Heap, excAt cls a h1 → (∀ o, h1.get? a = some o → h2.get? a = some o) → excAt cls a h2 := fun _ _ ⟨o, vs, h, r⟩ k => ⟨o, vs, k o h, r⟩
/-- except x as n: y = n -/
def wCatch (K : PySem.W.Frag) (c : Value) (i j : Nat) (Wout : WX) (D : Ends) : WX := fun cls d σ H =>
  ∃ b, PySem.W.exmOne K cls c = some b ∧ (b = true → d = none ∧ ∀ a, H a = none → D.nx (((σ.set i (some (.ref a))).set j (some (.ref a))).set i none) (upd H a (.ext (excAt cls a)))) ∧ (b = false → Wout cls d σ H)
section
variable {X : Cx} {x n y : Str} {c : Value} {i j : Nat} {body : List Stmt} {np py pm sp pos pos' : Pos} {tb : WX → TS} {Wout : WX}
theorem ps_catch (hs : X.stack = X.env :: X.outer) (hf : X.env.frame = some X.env.locals) (hex : X.ex = []) (hN : X.N.Nodup) (hi : X.N[i]? = some n) (hln : X.env.kindOf n = some .local) (hj : X.N[j]? = some y) (hly : X.env.kindOf y = some .local) (hnd : (n == ("__debug__" : Str)) = false) (hnc : (n == ("__classdict__" : Str)) = false) (hc : Names X x c) (tk : Takes X Wout)
    (hb : ∀ (W : WX) (pn : List (Addr × Obj)) (xe : Value → Shared → Prop), Takes (X.tr pn xe) W → PassesOwn (model X.prog X.w) X.A X.env xe → PSs (X.tr pn xe) body (tb W)) :
    PS X (.Try body [.ExceptHandler (some (.Name x np)) (some n) [.Assign [.Name y py] (.Name n pm) sp] pos'] [] [] pos) (fun D σ H => tb (wCatch X.K c i j Wout D) D σ H) := by
  refine ⟨fun pins st σ H D I h => ?_⟩
  have good := I.ok
  have frs0 : X.A.frames = some (X.env :: X.outer) := good.frames.trans (by rw [hs])
  refine wpAny_Try_except ?_
  refine wpAny_mono ((hb (wCatch X.K c i j Wout D) (X.pn ++ pins) (fun e t₁ => wpAny (model X.prog X.w) X.A (noteFrame e X.env) (fun _ t₂ => wpAny (model X.prog X.w) X.A (setFlight e none) (fun _ t₃ => wpAny (model X.prog X.w) X.A (handleBy e X.env [.ExceptHandler (some (.Name x np)) (some n) [.Assign [.Name y py] (.Name n pm) sp] pos']) (SP X pins D) X.xe t₃) X.xe t₂) X.xe t₁)
      (fun u s' air => ?_) PassesOwn.looking).run [] st σ H D (I.toTry _) h) (fun f s1 done => ?_) (fun _ _ q => q)
  · obtain ⟨a, B, sI, pins', σ', H', cls, d, rfl, JT, nb, up, sky, na, os, ag, b, hb1, hyes, hno⟩ := air
    have J : Inv X pins σ' H' sI := JT.ofTry good
    have sky2 : Sky B (X.env :: X.outer) a (Zc cls d) X.env.locals s'.heap := hs ▸ sky
    show wpAny (model X.prog X.w) X.A (noteFrame (.ref a) X.env) _ _ _
    refine Sky.land Zc.steady frs0 hf sky2 fun h3 fly3 up3 => ?_
    have J3 : Inv X pins σ' H' { s' with heap := h3 } := J.landed nb fly3.1 (up.trans up3) os ag
    obtain ⟨oe3, vs3, he3, hz3, hd3⟩ := fly3.there
    have nfr : a ∉ frs (X.env :: X.outer) := fun hm => by
      obtain ⟨_, o', e', hnf⟩ := fly3.2.2.1.mem hm
      rw [he3] at e'
      cases e'
      exact hnf _ hd3
    have nL : a ≠ X.env.locals := fun q => nfr (List.mem_filterMap.mpr ⟨X.env, List.mem_cons_self, by rw [hf, q]⟩)
    have nF : a ∉ X.fs := fun hm => by
      obtain ⟨e, he, q⟩ := List.mem_filterMap.mp hm
      exact nfr (List.mem_filterMap.mpr ⟨e, List.mem_cons_of_mem _ he, q⟩)
    have gone : sI.heap.get? a = none := by
      cases q : sI.heap.get? a with
      | none => rfl
      | some o =>
        have q2 := nb a o q (by rw [hs]; exact nfr)
        rw [fly3.2.1] at q2
        cases q2
    have new : X.s_0.heap.get? a = none := by
      cases q : X.s_0.heap.get? a with
      | none => rfl
      | some o =>
        obtain ⟨o', q2⟩ := J.base.there a o q (by rw [hex]; simp)
        rw [gone] at q2
        cases q2
    have far : ∀ p ∈ X.pn ++ pins, p.1 ≠ a := fun p hp q => by
      have q2 := (J.pin p hp).1
      rw [q, gone] at q2
      cases q2
    have S3 := J3.suite he3 hd3 na nL nF
    refine wpAny_handleBy_cons (codeAny_handlers_test ?_) (by intro q; cases q)
    have typ : PySem.W.Looks (model X.prog X.w) h3 (typeOf (.ref a)) cls := fun A Q E s k q => wpAny_typeOf_ref (k _ _ he3) (by rw [hz3.1]; exact q)
    have fits := PySem.W.exm_one (M := model X.prog X.w) J3.kIn typ hb1
    have named : ∀ {Q : Value → Shared → Prop} {E : Value → Shared → Prop}, Q c { s' with heap := h3 } → wpAny (model X.prog X.w) (X.A.mark (some (.ref a))) (eval (.Name x np) X.env) Q E { s' with heap := h3 } := fun {Q E} q => by
      obtain ⟨g1, g2, g3⟩ := hc
      rcases g3 with hm | ⟨hm, hv, hnn⟩
      · exact ld_glob (X := X.suite a ((a, oe3) :: (X.pn ++ pins))) S3 g1 hm q g2
      · exact ld_blt (X := X.suite a ((a, oe3) :: (X.pn ++ pins))) S3 g1 hm hv q hnn g2
    refine named (fits.here ?_)
    cases b with
    | true =>
      obtain ⟨hdn, hnext⟩ := hyes rfl
      refine codeAny_handlers_suite_as (HandSPX.lands_againZ fly3 fun h4 fly4 up4 => ?_)
      have J4 : Inv X pins σ' H' { s' with heap := h4 } := J.landed nb fly4.1 ((up.trans up3).trans up4) os ag
      obtain ⟨oe4, vs4, he4, hz4, hd4⟩ := fly4.there
      have S4 := J4.suite he4 hd4 na nL nF
      refine store_ok (X := X.suite a ((a, oe4) :: (X.pn ++ pins))) (v := .ref a) S4 hN hi (.inl hln) rfl (fun s5 S5 => ?_) (.inr hln)
      have hiσ : i < σ'.length := by rw [J.len]; exact (List.getElem?_eq_some_iff.mp hi).1
      have run : PSs (X.suite a ((a, oe4) :: (X.pn ++ pins))) [.Assign [.Name y py] (.Name n pm) sp] (tAsg (tVar i) (gName j)) := pss_one (ps_set hN hj (.inl hly) (pe_var hi (.inl hln) hnd hnc) rfl (.inr hly))
      refine wpAny_mono (run.run [] s5 _ H' { nx := fun σ6 H6 => σ6 = (σ'.set i (some (.ref a))).set j (some (.ref a)) ∧ H6 = H', rt := fun _ _ => False } S5 ⟨.ref a, by rw [List.getElem?_set_self hiσ], rfl, rfl⟩) (fun f s6 res => ?_) (fun _ _ q => q.elim)
      cases f with
      | next =>
        obtain ⟨σ6, H6, S6, e6, e7⟩ := res
        subst e6
        subst e7
        have J6 : Inv X ((a, oe4) :: pins) ((σ'.set i (some (.ref a))).set j (some (.ref a))) H6 s6 := ⟨good, S6.os, S6.bare, S6.base, S6.loc, S6.cell, S6.free, S6.freeC, fun p hp => S6.pin p (by
          rw [List.append_nil]
          show p ∈ (a, oe4) :: (X.pn ++ pins)
          rcases List.mem_append.mp hp with q | q
          · exact List.mem_cons_of_mem _ (List.mem_append_left _ q)
          · rcases List.mem_cons.mp q with q | q
            · rw [q]; exact List.mem_cons_self
            · exact List.mem_cons_of_mem _ (List.mem_append_right _ q)), S6.hok, S6.len⟩
        refine gone_ok J6 hN hi hln fun s7 J7 => ?_
        have hob := (J7.pin (a, oe4) (List.mem_append_right _ List.mem_cons_self)).1
        subst hdn
        exact ⟨_, _, track J7 new far (φ := excAt cls a) ⟨oe4, vs4, hob, hz4.1, hz4.2, hd4⟩ excAt_keep, hnext a na⟩
      | brk => obtain ⟨_, _, _, q⟩ := res; exact q.elim
      | cont => obtain ⟨_, _, _, q⟩ := res; exact q.elim
      | ret u => obtain ⟨_, _, _, _, _, q⟩ := res; exact q.elim
    | false =>
      show wpAny _ X.A (handleBy (.ref a) X.env []) _ _ _
      refine wpAny_handleBy_nil ?_
      obtain ⟨_, _, _, oe, vs, Tt, oT, ts', he, _, hd, ht1, _⟩ := id fly3
      unfold PySem.passOn
      refine wpAny_bind (wpAny_field he hd ht1 ?_)
      rw [if_neg (show ¬ ((Value.ref Tt == Value.none) = true) from by simp)]
      have fin : wpAny (model X.prog X.w) X.A (setFlight (.ref a) X.env.frame) (fun _ s4 => wpAny (model X.prog X.w) X.A (throw (.ref a) : Sem Flow) (SP X pins D) X.xe s4) X.xe { s' with heap := h3 } := by
        rw [hf]
        refine HandSPX.setFlight_upZ fly3 fun h4 held4 up4 => wpAny_throw (tk _ _ ?_)
        exact ⟨a, B, sI, pins, σ', H', cls, d, rfl, J, nb, (up.trans up3).trans up4, .inr (.inr (by rw [hs]; exact held4)), na, os, ag, hno rfl⟩
      first
        | exact wpAny_bind (wpAny_pure (wpAny_bind fin))
        | exact wpAny_bind fin
  · cases f with
    | next =>
      obtain ⟨σ1, H1, J1, q⟩ := done
      exact wpAny_execs_nil ⟨σ1, H1, J1.ofTry good, q⟩
    | brk =>
      obtain ⟨σ1, H1, J1, q⟩ := done
      exact ⟨σ1, H1, J1.ofTry good, q⟩
    | cont =>
      obtain ⟨σ1, H1, J1, q⟩ := done
      exact ⟨σ1, H1, J1.ofTry good, q⟩
    | ret u =>
      obtain ⟨v1, σ1, H1, J1, r1, q⟩ := done
      exact ⟨v1, σ1, H1, J1.ofTry good, r1, q⟩
end
end L2.Ms

/-! # Msa: lists of one's own -/
namespace L2.Ms
open PySem PySem.Spec PyProof.Rows Mv
section
variable {X : Cx} {z : Fx} {W : WX} {S : Sub} {T : Tab} {σ : St} {H F G H1 F1 G1 : Hp} {env : Ev} {n n1 : Nat} {D : Ends}
theorem PostF.step {o : Out Mv.D} {Q : VK} (st : Step z H F G H1 F1 G1 n1) (h : PostF z W σ H F G o Q) : PostF z W σ H1 F1 G1 o Q := by
  cases o with
  | ok d n' => exact fun p vs ds hd H' F' G' s hp => h p vs ds hd H' F' G' (st.trans s) (Classical.byContradiction fun q => st.dom p q hp)
  | ex c n' => exact fun H' F' G' s => h H' F' G' (st.trans s)
  | bad => exact h
/-- a reading to a new list -/
def SF (X : Cx) (z : Fx) (W : WX) (S : Sub) (T : Tab) (me : ME) (e : Expr) : Prop := ∀ (σ : St) (H F G : Hp) (env : Ev) (n : Nat) (Q : VK), ER z σ H F G env n → PostF z W σ H F G (evE S T me env n) Q → wE X e σ H Q
theorem SE.useF {a : ME} {e : Expr} (ha : SE X z W S T a e) (er : ER z σ H F G env n) {f : Mv.D → Nat → Out Mv.D} {Q Q1 : VK} (h : PostF z W σ H F G ((evE S T a env n).bind f) Q)
    (k : ∀ d n1 v H1 F1 G1, evE S T a env n = .ok d n1 → Step z H F G H1 F1 G1 n1 → ER z σ H1 F1 G1 env n1 → RepLv z.toCn (lev z.own a) F1 G1 v d → PostF z W σ H1 F1 G1 (f d n1) Q → Q1 v H1) : wE X e σ H Q1 := by
  refine ha er ?_
  cases h1 : evE S T a env n with
  | ok d n1 =>
    rw [h1] at h
    exact fun v H1 F1 G1 st r => k d n1 v H1 F1 G1 h1 st (er.step st) r (PostF.step st h)
  | ex c n1 => rw [h1] at h; exact h
  | bad => rw [h1] at h; exact h
theorem SA.useF {as : MEs} {es : List Expr} (ha : SA X z W S T as es) (er : ER z σ H F G env n) {f : List Mv.D → Nat → Out Mv.D} {Q : VK} {Q1 : List V → Hp → Prop} (h : PostF z W σ H F G ((evA S T as env n).bind f) Q)
    (k : ∀ ds n1 vs H1 F1 G1, Step z H F G H1 F1 G1 n1 → ER z σ H1 F1 G1 env n1 → RepL z.toCn G1 vs ds → (levA z.own as = true → RepL z.toCn F1 vs ds) → PostF z W σ H1 F1 G1 (f ds n1) Q → Q1 vs H1) : wA X es σ H Q1 := by
  refine ha er ?_
  cases h1 : evA S T as env n with
  | ok d n1 =>
    rw [h1] at h
    exact fun v H1 F1 G1 st r r2 => k d n1 v H1 F1 G1 st (er.step st) r r2 (PostF.step st h)
  | ex c n1 => rw [h1] at h; exact h
  | bad => rw [h1] at h; exact h
theorem PostF.lift {o : Option Mv.D} {Q : VK} (h : PostF z W σ H F G (Out.lift o n) Q) : ∃ d, o = some d ∧ ∀ p vs ds, d = .lst ds → ∀ H' F' G', Step z H F G H' F' G' n → H p = none → H' p = some (.lst vs) → G' p = none → z.pt ≠ some p → RepL z.toCn F' vs ds → Q (.ref p) H' := by
  cases o with
  | none => exact h.elim
  | some d => exact ⟨d, rfl, h⟩
theorem sf_lst {as : MEs} {es : List Expr} {pos : Pos} (ha : SA X z W S T as es) (hl : levA z.own as = true) : SF X z W S T (.lst as) (.List es pos) := fun σ H F G env n Q er h => by
  refine (pe_lst (paW es)).w (ha.useF er h fun ds n1 vs H1 F1 G1 s1 er1 r f h1 => ?_)
  obtain ⟨r', hr, hq⟩ := h1.lift
  obtain ⟨es', hr', rfl⟩ := Option.map_eq_some_iff.mp hr
  obtain ⟨rfl, hz⟩ := fit_some hr'
  exact ⟨by rw [r.length]; exact hz, fun p hp => fin_F er1 hp (f hl) hq⟩
theorem sf_rev {a : ME} {e : Expr} {k : Nat} {p1 p2 p3 pos : Pos} (ha : SE X z W S T a e) (hl : 1 ≤ lev z.own a) : SF X z W S T (.p1 .rev a) (.Subscript e (.Slice none none (some (.UnaryOp .USub (.Constant (.int 1) k p1) p2)) p3) pos) := fun σ H F G env n Q er h => by
  refine (pe_revL (peW e)).w (ha.useF er h fun d n1 v H1 F1 G1 _ s1 er1 r1 h1 => ?_)
  obtain ⟨r, hr, hq⟩ := h1.lift
  cases d <;> simp only [sem1, reduceCtorEq, Option.some.injEq] at hr
  subst hr
  obtain ⟨a, vs, rfl, ea, ra, fa⟩ := lvLst er1.fg r1
  exact ⟨a, vs, rfl, SqL.of (er1.gh _ _ ea), fun p hp => fin_F er1 hp (fa hl).reverse hq⟩
theorem sf_rngL {a : ME} {e : Expr} {p p2 pos pos2 : Pos} (hc : X.calm = true) (hg : Gl X "list") (hm : X.mg "list" = none) (hg2 : Gl X "range") (hm2 : X.mg "range" = none) (hn : noStar e = true) (ha : SE X z W S T a e) :
    SF X z W S T (.p1 .rngL a) (.Call (.Name "list" p) [.Call (.Name "range" p2) [e] [] pos2] [] pos) := fun σ H F G env n Q er h => by
  refine (pe_listRg hc hg hm (prg_1 hg2 hm2 (peW e) (starEach_cons [] _ hn)) rfl).w (ha.useF er h fun d n1 v H1 F1 G1 _ s1 er1 r1 h1 => ?_)
  obtain ⟨r, hr, hq⟩ := h1.lift
  cases d <;> simp only [sem1, reduceCtorEq] at hr
  split at hr <;> cases hr
  rename_i hi
  exact ⟨_, lvInt er1.fg r1, rg_ok hi.1 hi.2, fun p hp => fin_F er1 hp (repL_range _) hq⟩
theorem sf_sset {a : ME} {e : Expr} {p p2 pos pos2 : Pos} (hc : X.calm = true) (hK : X.K = z.K) (hg : Gl X "sorted") (hm : X.mg "sorted" = none) (hg2 : Gl X "set") (hm2 : X.mg "set" = none) (hn : noStar e = true) (ha : SE X z W S T a e) :
    SF X z W S T (.p1 .sset a) (.Call (.Name "sorted" p) [.Call (.Name "set" p2) [e] [] pos2] [] pos) := fun σ H F G env n Q er h => by
  refine w_srtSet hc hg hm hg2 hm2 (starEach_cons [] _ hn) (ha.useF er h fun d n1 v H1 F1 G1 _ s1 er1 r1 h1 => ?_)
  obtain ⟨r, hr, hq⟩ := h1.lift
  obtain ⟨xs, ns, hd, hi, hl, rfl⟩ := set_arg (sset_form n1) hr
  have q : ∃ a, v = .ref a ∧ (SqL X.K H1 a (ns.map V.int) ∨ SqT X.K H1 a (ns.map V.int)) := by
    rcases hd with rfl | rfl
    · exact (ints_at hK er1 hi).1 r1
    · exact (ints_at hK er1 hi).2 r1
  obtain ⟨b, rfl, hb⟩ := q
  exact ⟨b, ns, rfl, hb, hl, fun p hp => fin_F er1 hp (repL_ints _) hq⟩
/-- one-place pieces that lay a new list -/
def Pr1F (X : Cx) (z : Fx) (S : Sub) (p : P1) (f : Value) : Prop := ∀ {σ : St} {H F G : Hp} {env : Ev} {n : Nat} {x : V} {d r : Mv.D} {l : Nat} {Q : VK},
  ER z σ H F G env n → RepLv z.toCn l F G x d → 1 ≤ l → sem1 S p n d = some r →
  (∀ p vs ds, r = .lst ds → ∀ H' F' G', Step z H F G H' F' G' n → H p = none → H' p = some (.lst vs) → G' p = none → z.pt ≠ some p → RepL z.toCn F' vs ds → Q (.ref p) H') → wC X f [x] H Q
theorem pf_toL (hc : X.calm = true) : Pr1F X z S .toL (.type "list") := by
  intro σ H F G env n x d r l Q er hx hl hs hq
  unfold sem1 at hs
  split at hs <;> try (first | contradiction | (rename_i h1 h2; cases h1; done))
  · cases hs
    obtain ⟨a, vs, rfl, ea, ra, fa⟩ := lvLst er.fg hx
    exact call_list_of.w ⟨a, vs, rfl, .inl (SqL.of (er.gh _ _ ea)), fun p hp => fin_F er hp (fa hl) hq⟩
  · cases hs
    obtain ⟨a, vs, rfl, ea, ra, fa⟩ := lvTup er.fg hx
    exact call_list_of.w ⟨a, vs, rfl, .inr (SqT.of (er.gh _ _ ea)), fun p hp => fin_F er hp (fa hl).2 hq⟩
  · split at hs <;> cases hs
    rename_i hz
    have e := lvStr er.fg hx
    subst e
    exact (cr_listStr hc).w ⟨_, rfl, by rw [← line_eq]; exact hz, fun p hp => fin_F er hp (repL_signs _) hq⟩
theorem pf_srt (hu : X.A.units + 64 < cLine) : Pr1F X z S .srt (.builtin "sorted") := by
  intro σ H F G env n x d r l Q er hx hl hs hq
  unfold sem1 at hs
  split at hs <;> try (first | contradiction | (rename_i h1 h2; cases h1; done))
  unfold sortD at hs
  split at hs
  · rename_i ns h1
    cases hs
    have e := intsOf_map h1
    subst e
    obtain ⟨a, vs, rfl, ea, ra, fa⟩ := lvLst er.fg hx
    have e := ra.intsV
    subst e
    refine cr_sortedI.w ⟨a, ns, rfl, SqL.of (er.gh _ _ ea), fun ns' p hp hs hn => ?_⟩
    have e : ns' = sortI ns := sorted_unique (hp.trans (sortI_perm ns).symm) hs (sortI_sorted ns)
    subst e
    exact fin_F er hn (repL_ints _) hq
  · split at hs <;> cases hs
    rename_i xs _ _ h1 h2
    unfold srtOk at h2
    simp only [Bool.and_eq_true, Bool.or_eq_true, List.all_eq_true] at h2
    obtain ⟨⟨h3, h4⟩, h5⟩ := h2
    obtain ⟨a, vs, rfl, ea, ra, fa⟩ := lvLst er.fg hx
    have hz : ∀ b ∈ vs.zip xs, b.2 ∈ xs := fun b hb => (List.of_mem_zip (a := b.1) (b := b.2) hb).2
    have hsh : ∀ b ∈ vs.zip xs, shp deep b.2 = true := fun b hb => shpAll_mem h3 _ (hz b hb)
    have hle : ∀ b ∈ vs.zip xs, ∀ c ∈ vs.zip xs, PySem.W.dataLe false (fun b : V × D => toPy b.2) b c = leD b.2 c.2 := fun b hb c hc => by
      rw [PySem.W.dataLe_eq]
      show (!PySem.W.dataLt (toPy c.2) (toPy b.2)) = _
      rw [lt_py deep c.2 b.2 (hsh c hc) (hsh b hb) (h4 _ (hz c hc) _ (hz b hb))]; rfl
    refine (cr_sortedD hu).w ⟨a, vs.zip xs, rfl, by rw [ra.fst]; exact SqL.of (er.gh _ _ ea), RepL.dps er.gh ra h3, ?_, ?_, fun b hb => ?_, fun p hp => ?_⟩
    · intro d hd d' hd'
      obtain ⟨b, hb, rfl⟩ := List.mem_map.mp hd
      obtain ⟨c, hc, rfl⟩ := List.mem_map.mp hd'
      exact alk_py _ _ (h4 _ (hz b hb) _ (hz c hc))
    · rcases h5 with h5 | h5
      · refine .inl fun d hd => ?_
        obtain ⟨b, hb, rfl⟩ := List.mem_map.mp hd
        have := h5 _ (hz b hb)
        cases e : b.2 with
        | tup ys =>
          cases ys with
          | nil => rw [e] at this; cases this
          | cons y r => exact ⟨toPy y, toPys r, by simp [toPy, toPys]⟩
        | _ => rw [e] at this; cases this
      · refine .inr fun d hd => ?_
        obtain ⟨b, hb, rfl⟩ := List.mem_map.mp hd
        have := h5 _ (hz b hb)
        cases e : b.2 with
        | lst ys => exact ⟨by simp [toPy], fun xs => by simp [toPy]⟩
        | str ys => exact ⟨by simp [toPy], fun xs => by simp [toPy]⟩
        | _ => rw [e] at this; cases this
    · have := shp_shaped (k := deep) (by decide) (hsh b hb)
      have q := shp_lay (hsh b hb)
      have : deep = 20 := rfl
      omega
    · have e : (((vs.zip xs).mergeSort (PySem.W.dataLe false fun b : V × D => toPy b.2)).map Prod.snd) = xs.mergeSort leD := by
        rw [PySem.W.sort_maps (s := leD) Prod.snd hle, ra.snd]
      have mem : ∀ b ∈ (vs.zip xs).mergeSort (PySem.W.dataLe false fun b : V × D => toPy b.2), b ∈ vs.zip xs := fun b hb => (List.mergeSort_perm _ _).mem_iff.mp hb
      rw [← e] at hq
      exact fin_F er hp (repL_of fun b hb => (fa hl).zipped b (mem b hb)) hq
end
end L2.Ms

/-! # Msb: own lists are given up; own lists are set and changed -/
namespace L2.Ms
open PySem PySem.Spec PyProof.Rows Mv
/-- fewer own slots -/
def Fx.th (z : Fx) (o : Nat → Nat) : Fx := { z with own := o }
def Less (o p : Nat → Nat) : Prop := ∀ i, o i = p i ∨ o i = 0
theorem less_minus (p : Nat → Nat) (js : List Nat) : Less (minus p js) p := fun i => by
  by_cases h : i ∈ js
  · exact .inr (minus_in h)
  · exact .inl (minus_out h)
theorem less_zero (p : Nat → Nat) : Less (fun _ => 0) p := fun _ => .inr rfl
section
variable {X : Cx} {z : Fx} {W : WX} {S : Sub} {T : Tab} {σ : St} {H F G H1 F1 G1 : Hp} {env : Ev} {n n1 : Nat} {D : Ends}
/-- the places that are given up -/
def Giv (z : Fx) (o : Nat → Nat) (σ : St) (G : Hp) (env : Ev) (a : Addr) : Prop := ∃ (i : Nat) (d : Mv.D) (p : Addr), env[i]? = some (some d) ∧ z.own i ≠ 0 ∧ o i = 0 ∧ σ[i]? = some (some (.ref p)) ∧ Owns G p (z.own i) a
open Classical in
noncomputable def givF (z : Fx) (o : Nat → Nat) (σ : St) (F G : Hp) (env : Ev) : Hp := fun a => if Giv z o σ G env a then G a else F a
theorem giv_in {o : Nat → Nat} {a : Addr} (h : Giv z o σ G env a) : givF z o σ F G env a = G a := by unfold givF; rw [if_pos h]
theorem giv_out {o : Nat → Nat} {a : Addr} (h : ¬ Giv z o σ G env a) : givF z o σ F G env a = F a := by unfold givF; rw [if_neg h]
theorem ER.givLe {o : Nat → Nat} (er : ER z σ H F G env n) : Le F (givF z o σ F G env) := fun a u e => by
  by_cases h : Giv z o σ G env a
  · obtain ⟨i, d, p, h1, h2, _, h3, h4⟩ := h
    obtain ⟨vs, _, _, f⟩ := er.ownsCell h1 h2 h3 h4
    rw [e] at f; cases f
  · rw [giv_out h]; exact e
theorem ER.th {o : Nat → Nat} (er : ER z σ H F G env n) (ls : Less o z.own) : ER (z.th o) σ H (givF z o σ F G env) G env n := by
  have le := er.givLe (o := o)
  have same : ∀ i, o i ≠ 0 → z.own i = o i := fun i h => ((ls i).resolve_right h).symm
  have out : ∀ (j : Nat) d p a, env[j]? = some (some d) → o j ≠ 0 → σ[j]? = some (some (.ref p)) → Owns G p (z.own j) a → ¬ Giv z o σ G env a := fun j d p a hj hoj hs w g => by
    obtain ⟨i, d', p', h1, h2, h0, h3, h4⟩ := g
    have ne : i ≠ j := fun e => by subst e; exact hoj h0
    exact er.dis i j d' d p' p a ne h2 (by rw [same j hoj]; exact hoj) h1 hj h3 hs h4 w
  refine ⟨fun a u e => ?_, er.gh, er.h0, er.tw, fun i d h hi => ?_, fun i d h hi => ?_, fun i d h hi => ?_, fun i j d e p q a hne hi hj h1 h2 h3 h4 w1 w2 => ?_, er.len⟩
  · by_cases h : Giv z o σ G env a
    · rw [giv_in h] at e; exact e
    · rw [giv_out h] at e; exact er.fg a u e
  · have hi : o i = 0 := hi
    by_cases h0 : z.own i = 0
    · obtain ⟨v, h1, r⟩ := er.val i d h h0
      exact ⟨v, h1, r.mono le⟩
    · by_cases h1 : z.own i = 1
      · obtain ⟨p, e1, e3, w⟩ := er.ow i d h h1
        exact ⟨_, e1, w.rep le fun o q => by rw [giv_in ⟨i, _, p, h, h0, hi, e1, .inl rfl⟩]; exact q⟩
      · obtain ⟨p, vs, ds, rfl, e1, e2, e3, r, m⟩ := er.ow2 i d h (by omega)
        refine ⟨_, e1, .lst (by rw [giv_in ⟨i, _, p, h, h0, hi, e1, .inl rfl⟩]; exact e2) ?_⟩
        have key : ∀ {us : List V} {es : List Mv.D}, (∀ u ∈ us, u ∈ vs) → RowsL z.toCn F G us es → RepL z.toCn (givF z o σ F G env) us es := fun {us es} hm r => by
          induction r with
          | nil => exact .nil
          | cons g f rr ni t ih =>
            exact .cons (.lst (by rw [giv_in ⟨i, _, p, h, h0, hi, e1, .inr ⟨by omega, vs, e2, hm _ List.mem_cons_self⟩⟩]; exact g) (rr.mono le)) (ih fun u hu => hm u (List.mem_cons_of_mem _ hu))
        exact key (fun _ h => h) r
  · have hi : o i = 1 := hi
    have s := same i (by omega)
    obtain ⟨p, e1, e3, w⟩ := er.ow i d h (by omega)
    exact ⟨p, e1, by rw [giv_out (out i d p p h (by omega) e1 (.inl rfl))]; exact e3, w.mono le fun _ q => q⟩
  · have hi : 2 ≤ o i := hi
    have s := same i (by omega)
    obtain ⟨p, vs, ds, e0, e1, e2, e3, r, m⟩ := er.ow2 i d h (by omega)
    exact ⟨p, vs, ds, e0, e1, e2, by rw [giv_out (out i d p p h (by omega) e1 (.inl rfl))]; exact e3,
      r.mono le fun q us hm g f => ⟨g, by rw [giv_out (out i d p q h (by omega) e1 (.inr ⟨by omega, vs, e2, hm⟩))]; exact f⟩, m⟩
  · have hi : o i ≠ 0 := hi
    have hj : o j ≠ 0 := hj
    have w1 : Owns G p (o i) a := w1
    have w2 : Owns G q (o j) a := w2
    rw [← same i hi] at w1
    rw [← same j hj] at w2
    exact er.dis i j d e p q a hne (by rw [same i hi]; exact hi) (by rw [same j hj]; exact hj) h1 h2 h3 h4 w1 w2
theorem EN.th {o : Nat → Nat} (er : ER z σ H F G env n) (en : EN z F G) : EN (z.th o) (givF z o σ F G env) G := ⟨en.f0.trans er.givLe, en.nw⟩
theorem ER.unth {js : List Nat} (er : ER (z.th (minus z.own js)) σ H F G env n) : ER z σ H F G (wipeD env js) n := by
  have same : ∀ i, i ∉ js → minus z.own js i = z.own i := fun i h => minus_out h
  refine ⟨er.fg, er.gh, er.h0, er.tw, fun i d h hi => ?_, fun i d h hi => ?_, fun i d h hi => ?_, fun i j d e p q a hne hi hj h1 h2 h3 h4 w1 w2 => ?_, by rw [wipeD_length]; exact er.len⟩
  · obtain ⟨h1, h2⟩ := wipeD_some h
    exact er.val i d h1 ((same i h2).trans hi)
  · obtain ⟨h1, h2⟩ := wipeD_some h
    exact er.ow i d h1 ((same i h2).trans hi)
  · obtain ⟨h1, h2⟩ := wipeD_some h
    exact er.ow2 i d h1 (Nat.le_trans hi (Nat.le_of_eq (same i h2).symm))
  · obtain ⟨a1, a2⟩ := wipeD_some h1
    obtain ⟨b1, b2⟩ := wipeD_some h2
    refine er.dis i j d e p q a hne ?_ ?_ a1 b1 h3 h4 ?_ ?_
    · show minus z.own js i ≠ 0; rw [same i a2]; exact hi
    · show minus z.own js j ≠ 0; rw [same j b2]; exact hj
    · show Owns G p (minus z.own js i) a; rw [same i a2]; exact w1
    · show Owns G q (minus z.own js j) a; rw [same j b2]; exact w2
theorem ss_frz {js : List Nat} {s : MS} {st : Stmt} (h7 : 1000 ∉ js) (hs : SS X (z.th (minus z.own js)) W S T s st) : SS X z W S T (.frz js s) st := fun σ H F G env n D er en h => by
  refine hs σ H _ G env n D (er.th (less_minus _ js)) (EN.th er en) ?_
  simp only [evS] at h
  cases h1 : evS S T s env n with
  | nx env' n' => rw [h1] at h; exact fun σ' H' F' G' er' en' => h σ' H' F' G' er'.unth ⟨en'.f0, en'.nw⟩
  | rt d n' => rw [h1] at h; exact fun v H' G' rt r fr => h v H' G' ⟨rt.f0, rt.gh, rt.nw, rt.h0, rt.tw⟩ r fun q => fr (show minus z.own js 1000 = 7 by rw [minus_out h7]; exact q)
  | ex c n' env' => rw [h1] at h; exact fun σ' H' F' G' er' en' => h σ' H' F' G' er'.unth ⟨en'.f0, en'.nw⟩
  | bad => rw [h1] at h; exact h
theorem getL_some {i : Nat} {xs : List Mv.D} (h : getL env i = some xs) : env[i]? = some (some (.lst xs)) := by
  unfold getL at h
  split at h
  · rename_i ys q
    cases h
    exact q
  · cases h
theorem ofO_some {α : Type} {o : Option α} {f : α → SO} (h : PostS z W D (ofO o f)) : ∃ a, o = some a ∧ PostS z W D (f a) := by
  cases o with
  | none => exact h.elim
  | some a => exact ⟨a, rfl, h⟩
theorem ER.own1 {i : Nat} {xs : List Mv.D} (er : ER z σ H F G env n) (ho : z.own i = 1) (h : getL env i = some xs) : ∃ p vs, σ[i]? = some (some (.ref p)) ∧ G p = some (.lst vs) ∧ F p = none ∧ RepL z.toCn F vs xs := by
  obtain ⟨p, e1, e3, vs, e2, r⟩ := er.ow i _ (getL_some h) ho
  exact ⟨p, vs, e1, e2, e3, r⟩
theorem ER.own2 {i : Nat} {xs : List Mv.D} (er : ER z σ H F G env n) (ho : 2 ≤ z.own i) (h : getL env i = some xs) : ∃ p vs, σ[i]? = some (some (.ref p)) ∧ G p = some (.lst vs) ∧ F p = none ∧ RowsL z.toCn F G vs xs ∧ V.ref p ∉ vs := by
  obtain ⟨p, vs, ds, e0, e1, e2, e3, r, m⟩ := er.ow2 i _ (getL_some h) ho
  cases e0
  exact ⟨p, vs, e1, e2, e3, r, m⟩
theorem Step.own {p : Addr} {vs : List V} (er : ER z σ H F G env n) (s : Step z H F G H1 F1 G1 n1) (g : G p = some (.lst vs)) (f : F p = none) : G1 p = some (.lst vs) ∧ F1 p = none ∧ H1 p = some (.lst vs) := by
  have g1 := s.gg _ _ g
  refine ⟨g1, Classical.byContradiction fun q => ?_, s.gh _ _ g1⟩
  rcases s.nf p q with h | h
  · exact h f
  · exact h.mut (er.gh _ _ g) trivial
/-- a name's value -/
theorem w_name {i : Nat} {x : Str} {p : Pos} {v : V} {Q : VK} (hi : X.N[i]? = some x) (hv : Vis X.env.scope x) (hd : (x == ("__debug__" : Str)) = false) (hd2 : (x == ("__classdict__" : Str)) = false) (hs : σ[i]? = some (some v)) (q : Q v H) : wE X (.Name x p) σ H Q := (pe_var hi hv hd hd2).w ⟨v, hs, q⟩
/-! ### set -/
def SNF (X : Cx) (z : Fx) (W : WX) (S : Sub) (T : Tab) (me : ME) (e : Expr) : Prop := (∃ elt gs scope q, e = .ListComp elt gs scope q ∧ SL X z W S T me e ∧ 2 ≤ lev z.own me) ∨ (noComp e = true ∧ SF X z W S T me e)
theorem set_ruleF {e : Expr} {i : Nat} {x : Str} {p pos : Pos} {me : ME} (hl : SNF X z W S T me e) (hN : X.N.Nodup) (hi : X.N[i]? = some x) (hx : Loc X.env.scope x) (hf : X.fn x = true ∨ X.env.scope.names.lookup x = some .local) :
    ∃ t : TE, PS X (.Assign [.Name x p] e pos) (tAsg t (gName i)) ∧ (∀ (σ : St) (H F G : Hp) (env : Ev) (n : Nat) (Q : VK), ER z σ H F G env n → PostF z W σ H F G (evE S T me env n) Q → t σ H Q) := by
  rcases hl with ⟨elt, gs, scope, q, rfl, ⟨t, h1, h2, _, h3⟩, hl2⟩ | ⟨hc, hs⟩
  · refine ⟨t, ?_, fun σ H F G env n Q er p => h3 σ H F G env n Q hl2 er p⟩
    have e1 : swapsWith (.ListComp elt gs scope q) (some (.Name x p)) pos.line X.env = pure (X.env.blockKind == .function && X.env.kindOf x == some .local && p.line == q.line && !(scope.names.any fun (n, k) => n == x && (k == .local || k == .cell))) := rfl
    cases hb : (X.env.blockKind == .function && X.env.kindOf x == some .local && p.line == q.line && !(scope.names.any fun (n, k) => n == x && (k == .local || k == .cell))) with
    | true =>
      rw [hb] at e1
      have hloc : X.env.scope.names.lookup x = some .local := by
        simp only [Bool.and_eq_true] at hb
        exact beq_iff_eq.mp hb.1.1.2
      exact h2 i x p pos hi hloc e1
    | false =>
      rw [hb] at e1
      exact ps_set hN hi hx h1 e1 hf
  · exact ⟨wE X e, ps_set hN hi hx (peW e) (swaps0 hc _) hf, fun σ H F G env n Q er p => hs σ H F G env n Q er p⟩
theorem ss_setO {e : Expr} {i : Nat} {x : Str} {p pos : Pos} {me : ME} (hl : SNF X z W S T me e) (hN : X.N.Nodup) (hi : X.N[i]? = some x) (hx : Loc X.env.scope x) (hf : X.fn x = true ∨ X.env.scope.names.lookup x = some .local) (ho : z.own i = 1) :
    SS X z W S T (.set i me) (.Assign [.Name x p] e pos) := fun σ H F G env n D er en h => by
  obtain ⟨t, ht, hr⟩ := set_ruleF (p := p) (pos := pos) hl hN hi hx hf
  refine ht.w (hr σ H F G env n _ er ?_)
  simp only [evS] at h
  cases h1 : evE S T me env n with
  | ok d n1 =>
    rw [h1] at h
    intro p vs ds hd H1 F1 G1 st hp hH hG ht r
    subst hd
    exact h _ H1 F1 _ ((er.step st).setOwn ho hH hG ht r) ((en.step er st).own (er.free0 hp))
  | ex c n1 =>
    rw [h1] at h
    exact fun H1 F1 G1 st => h σ H1 F1 G1 (er.step st) (en.step er st)
  | bad => rw [h1] at h; exact h
/-- rows = [] -/
theorem ss_set2 {i : Nat} {x : Str} {p q pos : Pos} (hN : X.N.Nodup) (hi : X.N[i]? = some x) (hx : Loc X.env.scope x) (hf : X.fn x = true ∨ X.env.scope.names.lookup x = some .local) (ho : 2 ≤ z.own i) :
    SS X z W S T (.set i (.lst .nil)) (.Assign [.Name x p] (.List [] q) pos) := fun σ H F G env n D er en h => by
  refine (ps_set hN hi hx (pe_lst pa_nil) rfl hf).w ⟨Nat.zero_le _, fun p hp => ?_⟩
  have h : PostS z W D (.nx (env.set i (some (.lst []))) n) := h
  have st := er.refl.newH er.dom0 (o := .lst []) hp
  have er1 := er.step st
  have hg := er.gh.non hp
  refine h _ _ F _ (er1.setG (i := i) (p := p) (vs := []) (ds := []) (by omega) (fun a u e => ?_) er1.h0 (fun a q => ?_) (er.fg.non hg) (fun _ => .nil) (fun _ => ⟨.nil, by simp⟩) fun j e q a hne he hj hs w => ⟨fun e1 => ?_, fun _ => by simp⟩) (en.own (er.free0 hp))
  · by_cases q : a = p
    · subst q; rw [upd_same] at e ⊢; exact e
    · rw [upd_ne q] at e; exact er1.gh a u e
  · have e : a ≠ p := fun e => er.notTown hp (e ▸ q)
    rw [upd_ne (o := .lst []) (H := G) e]; exact er1.tw a q
  · subst e1
    obtain ⟨us, g, _⟩ := er1.ownsCell he hj hs w
    rw [hg] at g; cases g
/-! ### methods -/
/-- x.append(e) -/
theorem ss_app {i : Nat} {x : Str} {p apos pos pos2 : Pos} {e : Expr} {me : ME} (hi : X.N[i]? = some x) (hv : Vis X.env.scope x) (hd : (x == ("__debug__" : Str)) = false) (hd2 : (x == ("__classdict__" : Str)) = false) (hline : (apos.endLine == pos.line) = true) (hn : noStar e = true) (ho : z.own i = 1) (he : SE X z W S T me e) (h2 : 2 ≤ lev z.own me) :
    SS X z W S T (.app i me) (.Expr (.Call (.Attribute (.Name x p) "append" apos) [e] [] pos) pos2) := fun σ H F G env n D er en h => by
  simp only [evS] at h
  obtain ⟨xs, hxs, h⟩ := ofO_some h
  obtain ⟨a, vs, e1, e2, e3, r⟩ := er.own1 ho hxs
  refine (ps_expr (pe_bm PySem.F.plainAttrs_list PySem.F.slot_list_append PySem.F.type_list_append mt_append (pe_var hi hv hd hd2) (pa_cons (peW e) pa_nil (starEach_cons [] _ hn)) rfl (by rw [starEach_cons [] _ hn]; rfl) hline (starEach_cons [] _ hn) rfl)).w ?_
  refine ⟨_, e1, .inl ⟨rfl, _, SqL.of (er.gh _ _ e2)⟩, he.useS er en h fun d n1 v H1 F1 G1 _ s1 er1 en1 r1 h1 => ?_⟩
  obtain ⟨g1, f1, k1⟩ := Step.own er s1 e2 e3
  split at h1
  · rename_i hlen
    refine ⟨a, vs, v, rfl, rfl, k1, by rw [r.length, ← line_eq]; exact hlen, ?_⟩
    obtain ⟨er2, en2⟩ := er1.mut (us := vs ++ [v]) (es := xs ++ [d]) en1 ho (getL_some hxs) e1 g1 f1 ((r.mono s1.ff).append (.cons (r1.two h2) .nil))
    exact h1 σ _ F1 _ er2 en2
  · exact h1.elim
/-- x.extend(e) -/
theorem ss_ext {i : Nat} {x : Str} {p apos pos pos2 : Pos} {e : Expr} {me : ME} (hi : X.N[i]? = some x) (hv : Vis X.env.scope x) (hd : (x == ("__debug__" : Str)) = false) (hd2 : (x == ("__classdict__" : Str)) = false) (hline : (apos.endLine == pos.line) = true) (hn : noStar e = true) (ho : z.own i = 1) (he : SE X z W S T me e) (h2 : 1 ≤ lev z.own me) :
    SS X z W S T (.ext i me) (.Expr (.Call (.Attribute (.Name x p) "extend" apos) [e] [] pos) pos2) := fun σ H F G env n D er en h => by
  simp only [evS] at h
  obtain ⟨xs, hxs, h⟩ := ofO_some h
  obtain ⟨a, vs, e1, e2, e3, r⟩ := er.own1 ho hxs
  refine (ps_expr (pe_bm PySem.F.plainAttrs_list PySem.F.slot_list_extend PySem.F.type_list_extend mt_extend (pe_var hi hv hd hd2) (pa_cons (peW e) pa_nil (starEach_cons [] _ hn)) rfl (by rw [starEach_cons [] _ hn]; rfl) hline (starEach_cons [] _ hn) rfl)).w ?_
  refine ⟨_, e1, .inl ⟨rfl, _, SqL.of (er.gh _ _ e2)⟩, he.useS er en h fun d n1 v H1 F1 G1 _ s1 er1 en1 r1 h1 => ?_⟩
  obtain ⟨g1, f1, k1⟩ := Step.own er s1 e2 e3
  cases d with
  | lst ys =>
    dsimp only at h1
    split at h1
    · rename_i hlen
      obtain ⟨b, us, rfl, gb, _, fb⟩ := lvLst er1.fg r1
      refine ⟨a, b, vs, us, rfl, rfl, k1, er1.gh _ _ gb, by rw [r.length, (fb h2).length, ← line_eq]; exact hlen, ?_⟩
      obtain ⟨er2, en2⟩ := er1.mut (us := vs ++ us) (es := xs ++ ys) en1 ho (getL_some hxs) e1 g1 f1 ((r.mono s1.ff).append (fb h2))
      exact h1 σ _ F1 _ er2 en2
    · exact h1.elim
  | _ => exact h1.elim
end
end L2.Ms

/-! # Msc: own lists, stores -/
namespace L2.Ms
open PySem PySem.Spec PyProof.Rows Mv
theorem assignSub {o k : Expr} {pos : Pos} {env : Env} (h : isSlice k = false) : ∀ v, assign (.Subscript o k pos) env v = (do
      let ov ← holding [v] (eval o env)
      let iv ← holding [v, ov] (eval k env)
      standAt pos
      holding [v, ov, iv] (setItem ov iv v)
      release [v, ov, iv] []) := by
  intro v
  cases k <;> first | rfl | (simp [isSlice] at h)
section
variable {X : Cx} {z : Fx} {W : WX} {S : Sub} {T : Tab} {σ : St} {H F G H1 F1 G1 : Hp} {env : Ev} {n n1 : Nat} {D : Ends}
theorem swapsSole {e tg : Expr} {l : Nat} {env : Env} (h : noComp e = true) : swapsWithSole [tg] e l env = pure false := by
  cases e <;> first | rfl | (simp [noComp] at h)
theorem swStores {e o k : Expr} {pos : Pos} {env : Env} : swappedStores [.Subscript o k pos] e env = pure none := by
  cases e <;> rfl
theorem swStores2 {o k o2 l a b : Expr} {q1 q2 pt pt2 : Pos} {kt k2 : Nat} {env : Env} : swappedStores [.Tuple [.Subscript o k q1, .Subscript o2 l q2] kt pt] (.Tuple [a, b] k2 pt2) env = pure none := by
  unfold swappedStores
  dsimp only
  split
  · rfl
  · split
    · rfl
    · rfl
/-- x[k] = e -/
theorem ss_sto {i : Nat} {x : Str} {p q pos : Pos} {k e : Expr} {mk me : ME} (hi : X.N[i]? = some x) (hv : Vis X.env.scope x) (hd : (x == ("__debug__" : Str)) = false) (hd2 : (x == ("__classdict__" : Str)) = false) (hs : isSlice k = false) (hc : noComp e = true) (ho : z.own i = 1) (hk : SE X z W S T mk k) (he : SE X z W S T me e) (h2 : 2 ≤ lev z.own me) :
    SS X z W S T (.sto i mk me) (.Assign [.Subscript (.Name x p) k q] e pos) := fun σ H F G env n D er en h => by
  refine (ps_asg (peW e) (pg_sub (pe_var hi hv hd hd2) (peW k) set_list (assignSub hs)) (swapsSole hc) swStores rfl).w ?_
  simp only [evS] at h
  refine he.useS er en h fun d n1 v H1 F1 G1 _ s1 er1 en1 r1 h1 => ?_
  obtain ⟨xs, hxs, h1⟩ := ofO_some h1
  obtain ⟨a, vs, e1, e2, e3, r⟩ := er1.own1 ho hxs
  refine ⟨_, e1, hk.useS er1 en1 h1 fun d2 n2 v2 H2 F2 G2 _ s2 er2 en2 r2 h2' => ?_⟩
  obtain ⟨g1, f1, k1⟩ := Step.own er1 s2 e2 e3
  cases d2 with
  | int kk =>
    obtain ⟨j, hj, h3⟩ := ofO_some h2'
    refine ⟨a, vs, kk, j, rfl, lvInt er2.fg r2, k1, by rw [r.length, ← ixN_eq]; exact hj, ?_⟩
    obtain ⟨er3, en3⟩ := er2.mut (us := vs.set j v) (es := xs.set j d) en2 ho (getL_some hxs) e1 g1 f1 (RepL.set ((r1.two h2).mono s2.ff) j (r.mono s2.ff))
    exact h3 σ _ F2 _ er3 en3
  | _ => exact h2'.elim
/-- x[k], x[l] = (a, b) -/
theorem ss_swp {i : Nat} {x : Str} {p1 p2 q1 q2 pt pt2 pos : Pos} {kt k2 : Nat} {k l a b : Expr} {mk ml ma mb : ME} (hcalm : X.calm = true) (hi : X.N[i]? = some x) (hv : Vis X.env.scope x) (hd : (x == ("__debug__" : Str)) = false) (hd2 : (x == ("__classdict__" : Str)) = false) (hs : isSlice k = false) (hs2 : isSlice l = false) (hna : noStar a = true) (hnb : noStar b = true) (ho : z.own i = 1)
    (hk : SE X z W S T mk k) (hl : SE X z W S T ml l) (ha : SE X z W S T ma a) (hb : SE X z W S T mb b) (l1 : 2 ≤ lev z.own ma) (l2 : 2 ≤ lev z.own mb) :
    SS X z W S T (.swp i mk ml ma mb) (.Assign [.Tuple [.Subscript (.Name x p1) k q1, .Subscript (.Name x p2) l q2] kt pt] (.Tuple [a, b] k2 pt2) pos) := fun σ H F G env n D er en h => by
  refine (ps_asg (pe_tup (pa_cons (peW a) (pa_cons (peW b) pa_nil (starEach_cons [] _ hnb)) (starEach_cons [b] _ hna))) (pg_tup hcalm (pgs_cons (pg_sub (pe_var hi hv hd hd2) (peW k) set_list (assignSub hs)) (pgs_cons (pg_sub (pe_var hi hv hd hd2) (peW l) set_list (assignSub hs2)) pgs_nil))) rfl swStores2 rfl).w ?_
  simp only [evS] at h
  refine ha.useS er en h fun d n1 v H1 F1 G1 _ s1 er1 en1 r1 h1 => hb.useS er1 en1 h1 fun d2 n2 v2 H2 F2 G2 _ s2 er2 en2 r2 h2 => ?_
  obtain ⟨xs, hxs, h2⟩ := ofO_some h2
  refine ⟨by show 2 ≤ sizeLine; decide, fun t ht => ?_⟩
  have st := er2.refl.newH er2.dom0 (o := .tup [v, v2]) ht
  have er2 := er2.step st
  have en2 := en2.step (er1.step s2) st
  refine ⟨t, _, rfl, SqT.of upd_same, rfl, ?_⟩
  obtain ⟨c, vs, e1, e2, e3, r⟩ := er2.own1 ho hxs
  refine ⟨v, _, rfl, _, e1, hk.useS er2 en2 h2 fun d3 n3 v3 H3 F3 G3 _ s3 er3 en3 r3 h3 => ?_⟩
  obtain ⟨g1, f1, k1⟩ := Step.own er2 s3 e2 e3
  cases d3 with
  | int kk =>
    obtain ⟨j, hj, h3⟩ := ofO_some h3
    refine ⟨c, vs, kk, j, rfl, lvInt er3.fg r3, k1, by rw [r.length, ← ixN_eq]; exact hj, ?_⟩
    obtain ⟨er4, en4⟩ := er3.mut (us := vs.set j v) (es := xs.set j d) en3 ho (getL_some hxs) e1 g1 f1 (RepL.set (((r1.two l1).mono s2.ff).mono s3.ff) j (r.mono s3.ff))
    refine ⟨v2, _, rfl, _, e1, hl.useS er4 en4 h3 fun d5 n5 v5 H5 F5 G5 _ s5 er5 en5 r5 h5 => ?_⟩
    obtain ⟨g2, f2, k2⟩ := Step.own er4 s5 upd_same f1
    cases d5 with
    | int ll =>
      obtain ⟨j2, hj2, h6⟩ := ofO_some h5
      refine ⟨c, vs.set j v, ll, j2, rfl, lvInt er5.fg r5, k2, by rw [List.length_set, r.length, ← ixN_eq]; exact hj2, rfl, ?_⟩
      have hlive : (putL env i (xs.set j d))[i]? = some (some (.lst (xs.set j d))) := by
        unfold putL
        rw [List.getElem?_set_self (List.getElem?_eq_some_iff.mp (getL_some hxs)).1]
      obtain ⟨er6, en6⟩ := er5.mut (us := (vs.set j v).set j2 v2) (es := (xs.set j d).set j2 d2) en5 ho hlive e1 g2 f2 (RepL.set ((((r2.two l2)).mono s3.ff).mono s5.ff) j2 (RepL.set ((((r1.two l1).mono s2.ff).mono s3.ff).mono s5.ff) j ((r.mono s3.ff).mono s5.ff)))
      rw [List.set_set] at er6
      exact h6 σ _ F5 _ er6 en6
    | _ => exact h5.elim
  | _ => exact h3.elim
end
end L2.Ms

/-! # Msd: rows of one's own; insert, pop -/
namespace L2.Ms
open PySem PySem.Spec PyProof.Rows Mv
theorem RowsL.snoc {z : Cn} {F G : Hp} {q : Addr} {us : List V} {es : List Mv.D} (hg : G q = some (.lst us)) (hf : F q = none) (r : RepL z F us es) : ∀ {vs : List V} {ds : List Mv.D}, RowsL z F G vs ds → V.ref q ∉ vs → RowsL z F G (vs ++ [.ref q]) (ds ++ [.lst es])
  | _, _, .nil, _ => .cons hg hf r (by simp) .nil
  | _, _, .cons a b c d t, h => by
    have h' := fun m => h (List.mem_cons_of_mem _ m)
    refine .cons a b c (fun m => ?_) (RowsL.snoc hg hf r t h')
    rcases List.mem_append.mp m with m | m
    · exact d m
    · rw [List.mem_singleton] at m
      exact h (by rw [← m]; exact List.mem_cons_self)
theorem RowsL.length {z : Cn} {F G : Hp} : ∀ {vs : List V} {ds : List Mv.D}, RowsL z F G vs ds → vs.length = ds.length
  | _, _, .nil => rfl
  | _, _, .cons _ _ _ _ t => by simp [RowsL.length t]
theorem RowsL.get {z : Cn} {F G : Hp} : ∀ {vs : List V} {ds : List Mv.D} {a : Nat} {d : Mv.D}, RowsL z F G vs ds → ds[a]? = some d → ∃ q us es, vs[a]? = some (.ref q) ∧ d = .lst es ∧ G q = some (.lst us) ∧ F q = none ∧ RepL z F us es
  | _, _, _, _, .nil, e => by simp at e
  | _, _, 0, _, .cons a b c d t, e => by simp at e; exact ⟨_, _, _, rfl, e.symm, a, b, c⟩
  | _, _, i + 1, _, .cons a b c d t, e => by
    obtain ⟨q, us, es, h⟩ := RowsL.get (a := i) t (by simpa using e)
    exact ⟨q, us, es, by simpa using h⟩
theorem RowsL.setRow {z : Cn} {F G : Hp} {q : Addr} {us' : List V} {es' : List Mv.D} (r' : RepL z F us' es') : ∀ {vs : List V} {ds : List Mv.D} {a : Nat}, RowsL z F G vs ds → vs[a]? = some (.ref q) → RowsL z F (upd G q (.lst us')) vs (ds.set a (.lst es'))
  | _, _, _, .nil, e => by simp at e
  | _, _, 0, .cons a b c d t, e => by
    simp at e
    subst e
    exact .cons upd_same b r' d (t.off d)
  | _, _, i + 1, .cons a b c d t, e => by
    rw [List.getElem?_cons_succ] at e
    refine .cons ?_ b c d (RowsL.setRow r' t e)
    rw [upd_ne (fun x => d (by rw [x]; exact List.mem_of_getElem? e))]
    exact a
section
variable {X : Cx} {z : Fx} {W : WX} {S : Sub} {T : Tab} {σ : St} {H F G H1 F1 G1 : Hp} {env : Ev} {n n1 : Nat} {D : Ends}
/-- rows.append(row) -/
theorem ss_mv2 {i j : Nat} {x y : Str} {p q apos pos pos2 : Pos} (hi : X.N[i]? = some x) (hv : Vis X.env.scope x) (hd : (x == ("__debug__" : Str)) = false) (hd2 : (x == ("__classdict__" : Str)) = false) (hline : (apos.endLine == pos.line) = true)
    (hj : X.N[j]? = some y) (hvj : Vis X.env.scope y) (hdj : (y == ("__debug__" : Str)) = false) (hdj2 : (y == ("__classdict__" : Str)) = false) (ho : 2 ≤ z.own i) (hoj : z.own j = 1) :
    SS X z W S T (.mv2 i j) (.Expr (.Call (.Attribute (.Name x p) "append" apos) [.Name y q] [] pos) pos2) := fun σ H F G env n D er en h => by
  simp only [evS] at h
  obtain ⟨xs, hxs, h⟩ := ofO_some h
  obtain ⟨ys, hys, h⟩ := ofO_some h
  split at h
  · rename_i hlen
    obtain ⟨a, vs, e1, e2, e3, r, m⟩ := er.own2 ho hxs
    obtain ⟨b, us, c1, c2, c3, c⟩ := er.own1 hoj hys
    have hne : i ≠ j := fun e => by subst e; omega
    refine (ps_expr (pe_bm PySem.F.plainAttrs_list PySem.F.slot_list_append PySem.F.type_list_append mt_append (pe_var hi hv hd hd2) (pa_cons (pe_var hj hvj hdj hdj2) pa_nil) rfl rfl hline rfl rfl)).w ?_
    refine ⟨_, e1, .inl ⟨rfl, _, SqL.of (er.gh _ _ e2)⟩, _, c1, a, vs, _, rfl, rfl, er.gh _ _ e2, by rw [r.length, ← line_eq]; exact hlen, ?_⟩
    have hbv : V.ref b ∉ vs := fun q => er.dis i j _ _ a b b hne (by omega) (by omega) (getL_some hxs) (getL_some hys) e1 c1 (.inr ⟨ho, vs, e2, q⟩) (.inl rfl)
    have hab : a ≠ b := fun q => er.dis i j _ _ a b b hne (by omega) (by omega) (getL_some hxs) (getL_some hys) e1 c1 (.inl q.symm) (.inl rfl)
    have ht : ∀ w, z.pt = some w → w ≠ a := fun w q e => by subst e; rw [(er.tw w q).2.1] at e2; cases e2
    have h0 := en.own0 er e2 trivial e3
    have er1 := er.kill (i := j)
    have er2 := er1.setG (i := i) (p := a) (vs := vs ++ [.ref b]) (ds := xs ++ [.lst ys]) (H' := upd H a (.lst (vs ++ [.ref b]))) (by omega) er.gh.both (fun w o hw q => by rw [upd_ne (ne_of_none hw h0)]; exact er.h0 w o hw q) (fun w q => by rw [upd_ne (ht w q), upd_ne (ht w q)]; exact er.tw w q) e3 (fun q => by omega)
      (fun _ => ⟨(r.snoc c2 c3 c hbv).off (fun q => (List.mem_append.mp q).elim m fun q => hab (by simpa using q)), fun q => (List.mem_append.mp q).elim m fun q => hab (by simpa using q)⟩)
      (fun k e w t hik hk hok hs hw => by
        rcases set_live hk with ⟨rfl, e0, _⟩ | ⟨hjk, hk⟩
        · cases e0
        · refine ⟨fun e0 => ?_, fun _ q => ?_⟩
          · subst e0; exact er.dis i k _ _ t w t hik (by omega) hok (getL_some hxs) hk e1 hs (.inl rfl) hw
          · rcases List.mem_append.mp q with q | q
            · exact er.dis i k _ _ a w t hik (by omega) hok (getL_some hxs) hk e1 hs (.inr ⟨ho, vs, e2, q⟩) hw
            · have q : t = b := by simpa using q
              subst q
              exact er.dis j k _ _ t w t hjk (by omega) hok (getL_some hys) hk c1 hs (.inl rfl) hw)
    have es : σ.set i (some (.ref a)) = σ := by
      obtain ⟨h1, h2⟩ := List.getElem?_eq_some_iff.mp e1
      rw [← h2]
      exact List.set_getElem_self h1
    rw [es, List.set_comm _ _ (Ne.symm hne)] at er2
    exact h σ _ F _ er2 (en.own h0)
  · exact h.elim
theorem ER.mut2 {i a : Nat} {p q : Addr} {vs us us' : List V} {xs es' : List Mv.D} (er : ER z σ H F G env n) (en : EN z F G) (ho : 2 ≤ z.own i) (he : env[i]? = some (some (.lst xs))) (hσ : σ[i]? = some (some (.ref p))) (hg : G p = some (.lst vs)) (hf : F p = none) (rows : RowsL z.toCn F G vs xs) (hm : V.ref p ∉ vs)
    (ha : vs[a]? = some (.ref q)) (hq : G q = some (.lst us)) (hqf : F q = none) (r : RepL z.toCn F us' es') :
    ER z σ (upd H q (.lst us')) F (upd G q (.lst us')) (env.set i (some (.lst (xs.set a (.lst es'))))) n ∧ EN z F (upd G q (.lst us')) := by
  have hmem : V.ref q ∈ vs := List.mem_of_getElem? ha
  have hpq : p ≠ q := fun e => hm (by rw [e]; exact hmem)
  have own : Owns G p (z.own i) q := .inr ⟨ho, vs, hg, hmem⟩
  have ht : ∀ w, z.pt = some w → w ≠ q := fun w e e' => by subst e'; rw [(er.tw w e).2.1] at hq; cases hq
  have h0 := en.own0 er hq trivial hqf
  have off : ∀ (j : Nat) d p', i ≠ j → env[j]? = some (some d) → z.own j ≠ 0 → σ[j]? = some (some (.ref p')) → ∀ w, Owns G p' (z.own j) w → w ≠ q := fun j d p' hij hj hoj hs w hw e => by
    subst e
    exact er.dis i j _ _ p p' w hij (by omega) hoj he hj hσ hs own hw
  refine ⟨⟨er.fg.right hqf, er.gh.both, fun w o hw e => by rw [upd_ne (ne_of_none hw h0)]; exact er.h0 w o hw e, fun w e => by rw [upd_ne (ht w e), upd_ne (ht w e)]; exact er.tw w e, fun j d hj hoj => ?_, fun j d hj hoj => ?_, fun j d hj hoj => ?_, fun j k d e p1 p2 w hne hj hk h1 h2 h3 h4 w1 w2 => ?_, by simp [er.len]⟩, en.own h0⟩
  · rcases set_live hj with ⟨rfl, _⟩ | ⟨hij, hj⟩
    · omega
    · exact er.val j d hj hoj
  · rcases set_live hj with ⟨rfl, _⟩ | ⟨hij, hj⟩
    · omega
    · obtain ⟨p', a2, a4, w⟩ := er.ow j d hj hoj
      exact ⟨p', a2, a4, w.mono .rfl fun u e => by rw [upd_ne (off j d p' hij hj (by omega) a2 p' (.inl rfl))]; exact e⟩
  · rcases set_live hj with ⟨rfl, e0, _⟩ | ⟨hij, hj⟩
    · cases e0
      exact ⟨p, vs, _, rfl, hσ, by rw [upd_ne hpq]; exact hg, hf, rows.setRow r ha, hm⟩
    · obtain ⟨p', vs', ds', a1, a2, a3, a4, a5, a6⟩ := er.ow2 j d hj hoj
      exact ⟨p', vs', ds', a1, a2, by rw [upd_ne (off j d p' hij hj (by omega) a2 p' (.inl rfl))]; exact a3, a4, a5.off fun m => off j d p' hij hj (by omega) a2 q (.inr ⟨hoj, vs', a3, m⟩) rfl, a6⟩
  · have pne : ∀ (j : Nat) d p1, (env.set i (some (Mv.D.lst (xs.set a (.lst es')))))[j]? = some (some d) → z.own j ≠ 0 → σ[j]? = some (some (.ref p1)) → p1 ≠ q ∧ ∃ d', env[j]? = some (some d') := fun j d p1 hj hoj hs => by
      rcases set_live hj with ⟨rfl, _⟩ | ⟨hij, hj⟩
      · rw [hσ] at hs; cases hs; exact ⟨hpq, _, he⟩
      · exact ⟨off j d p1 hij hj hoj hs p1 (.inl rfl), _, hj⟩
    obtain ⟨n1, d1, l1⟩ := pne j d p1 h1 hj h3
    obtain ⟨n2, d2, l2⟩ := pne k e p2 h2 hk h4
    exact er.dis j k d1 d2 p1 p2 w hne hj hk l1 l2 h3 h4 (w1.off n1) (w2.off n2)
/-- rows[k][l] = e -/
theorem ss_st2 {i : Nat} {x : Str} {p q1 q2 pos : Pos} {k l e : Expr} {mk ml me : ME} (hi : X.N[i]? = some x) (hv : Vis X.env.scope x) (hd : (x == ("__debug__" : Str)) = false) (hd2 : (x == ("__classdict__" : Str)) = false) (hpk : PlainIx k) (hs2 : isSlice l = false) (hc : noComp e = true) (ho : 2 ≤ z.own i) (hk : SE X z W S T mk k) (hl : SE X z W S T ml l) (he : SE X z W S T me e) (h2 : 2 ≤ lev z.own me) :
    SS X z W S T (.st2 i mk ml me) (.Assign [.Subscript (.Subscript (.Name x p) k q1) l q2] e pos) := fun σ H F G env n D er en h => by
  refine (ps_asg (peW e) (pg_sub (peW (.Subscript (.Name x p) k q1)) (peW l) set_list (assignSub hs2)) (swapsSole hc) swStores rfl).w ?_
  simp only [evS] at h
  refine he.useS er en h fun d n1 v H1 F1 G1 _ s1 er1 en1 r1 h1 => ?_
  obtain ⟨xs, hxs, h1⟩ := ofO_some h1
  obtain ⟨a, vs, e1, e2, e3, r, m⟩ := er1.own2 ho hxs
  intro pins s I
  refine Subscript_ (binT (peW (.Name x p)) (peW k) I (R := fun x' y' H2 => wX X (.Name x p) k x' y' H2 _) ?_ fun v u s2 x' y' H2 I2 rx ry q => q pins s2 σ v u I2 rx ry (hpk _ _))
  refine w_name hi hv hd hd2 e1 (hk.useS er1 en1 h1 fun d2 n2 v2 H2 F2 G2 _ s2 er2 en2 r2 h2' => ?_)
  obtain ⟨g1, f1, k1⟩ := Step.own er1 s2 e2 e3
  cases d2 with
  | int kk =>
    obtain ⟨j, hj, h3⟩ := ofO_some h2'
    obtain ⟨j', hj', e2'⟩ : ∃ j', ixN vs.length kk = some j' ∧ j' = j := ⟨j, by rw [r.length, ← ixN_eq]; exact hj, rfl⟩
    subst e2'
    have hlt : j' < xs.length := by
      have := (ixN_seq hj').2.1
      rw [r.length] at this
      exact this
    obtain ⟨row, us, es, hrow, hes, gq, fq, rq⟩ := r.get (List.getElem?_eq_getElem hlt)
    have e4 := lvInt er2.fg r2
    subst e4
    refine ix_list.w ⟨a, vs, kk, .ref row, rfl, rfl, SqL.of k1, ?_, hl.useS er2 en2 h3 fun d3 n3 v3 H3 F3 G3 _ s3 er3 en3 r3 h4 => ?_⟩
    · unfold atI
      rw [hj']
      exact hrow
    · cases d3 with
      | int ll =>
        obtain ⟨ys, hys, h4⟩ := ofO_some h4
        obtain ⟨b, hb, h5⟩ := ofO_some h4
        have hys' : ys = es := by
          unfold getM at hys
          rw [hxs, Option.bind_some, List.getElem?_eq_getElem hlt, hes] at hys
          simpa using hys.symm
        subst hys'
        obtain ⟨gq2, fq2, hq2⟩ := Step.own er1 s2 gq fq
        obtain ⟨gq3, fq3, hq3⟩ := Step.own er2 s3 gq2 fq2
        obtain ⟨g3, f3, k3⟩ := Step.own er2 s3 g1 f1
        have rows2 : RowsL z.toCn F2 G2 vs xs := r.mono s2.ff fun q us _ g f => ⟨(Step.own er1 s2 g f).1, (Step.own er1 s2 g f).2.1⟩
        have rows3 : RowsL z.toCn F3 G3 vs xs := rows2.mono s3.ff fun q us _ g f => ⟨(Step.own er2 s3 g f).1, (Step.own er2 s3 g f).2.1⟩
        refine ⟨row, us, ll, b, rfl, lvInt er3.fg r3, hq3, by rw [rq.length, ← ixN_eq]; exact hb, ?_⟩
        obtain ⟨er4, en4⟩ := er3.mut2 (a := j') (us' := us.set b v) (es' := ys.set b d) en3 ho (getL_some hxs) e1 g3 f3 rows3 m hrow gq3 fq3 (RepL.set (((r1.two h2).mono s2.ff).mono s3.ff) b ((rq.mono s2.ff).mono s3.ff))
        exact h5 σ _ F3 _ er4 en4
      | _ => exact h4.elim
  | _ => exact h2'.elim
/-- x.insert(k, e) -/
theorem ss_ins {i : Nat} {x : Str} {p apos pos pos2 : Pos} {k e : Expr} {mk me : ME} (hi : X.N[i]? = some x) (hv : Vis X.env.scope x) (hd : (x == ("__debug__" : Str)) = false) (hd2 : (x == ("__classdict__" : Str)) = false) (hline : (apos.endLine == pos.line) = true) (hn : noStar k = true) (hn2 : noStar e = true) (ho : z.own i = 1) (hk : SE X z W S T mk k) (he : SE X z W S T me e) (h2 : 2 ≤ lev z.own me) :
    SS X z W S T (.ins i mk me) (.Expr (.Call (.Attribute (.Name x p) "insert" apos) [k, e] [] pos) pos2) := fun σ H F G env n D er en h => by
  simp only [evS] at h
  obtain ⟨xs, hxs, h⟩ := ofO_some h
  obtain ⟨a, vs, e1, e2, e3, r⟩ := er.own1 ho hxs
  refine (ps_expr (pe_bm PySem.F.plainAttrs_list PySem.F.slot_list_insert PySem.F.type_list_insert mt_insert (pe_var hi hv hd hd2) (pa_cons (peW k) (pa_cons (peW e) pa_nil (starEach_cons [] _ hn2)) (starEach_cons [e] _ hn)) rfl (by rw [starEach_cons [e] _ hn, starEach_cons [] _ hn2]; rfl) hline (starEach_cons [e] _ hn) (starEach_plain _ (by simp [hn2])))).w ?_
  refine ⟨_, e1, .inl ⟨rfl, _, SqL.of (er.gh _ _ e2)⟩, hk.useS er en h fun d n1 v H1 F1 G1 _ s1 er1 en1 r1 h1 => he.useS er1 en1 h1 fun d2 n2 v2 H2 F2 G2 _ s2 er2 en2 r2 h3 => ?_⟩
  obtain ⟨g1, f1, k1⟩ := Step.own er s1 e2 e3
  obtain ⟨g2, f2, k2⟩ := Step.own er1 s2 g1 f1
  cases d with
  | int kk =>
    dsimp only at h3
    split at h3
    · rename_i hc
      have e4 := lvInt er1.fg r1
      subst e4
      have hl : line = 16777216 := rfl
      refine ⟨a, vs, kk, v2, rfl, rfl, k2, by rw [r.length, ← line_eq]; exact hc.2.2, hc.1, by omega, ?_⟩
      have rr := (r.mono s1.ff).mono s2.ff
      obtain ⟨er3, en3⟩ := er2.mut (us := vs.take kk.toNat ++ [v2] ++ vs.drop kk.toNat) (es := xs.take kk.toNat ++ d2 :: xs.drop kk.toNat) en2 ho (getL_some hxs) e1 g2 f2 (by rw [List.append_assoc]; exact (rr.take _).append (.cons (r2.two h2) (rr.drop _)))
      exact h3 σ _ F2 _ er3 en3
    · exact h3.elim
  | _ => exact h3.elim
def noTup : Expr → Bool
  | .Tuple .. => false
  | _ => true
theorem swStoresT {ts : List Expr} {k : Nat} {p : Pos} {e : Expr} {env : Env} (h : noTup e = true) : swappedStores [.Tuple ts k p] e env = pure none := by
  cases e <;> first | rfl | (simp [noTup] at h)
/-- a, b = x.pop() -/
theorem ss_popu {g : Cfg} {L : Nat} {sc : Scope} (c : Ctx g X z W L S T sc) {i : Nat} {is : List Nat} {x : Str} {p apos pos pos2 pt : Pos} {ts : List Expr} {kt : Nat} (hi : X.N[i]? = some x) (hv : Vis X.env.scope x) (hd : (x == ("__debug__" : Str)) = false) (hd2 : (x == ("__classdict__" : Str)) = false) (hline : (apos.endLine == pos.line) = true) (ho : z.own i = 1) (hg : PG X (.Tuple ts kt pt) (gOf X.K is)) (hoi : ∀ j ∈ is, z.own j = 0) :
    SS X z W S T (.popu is i) (.Assign [.Tuple ts kt pt] (.Call (.Attribute (.Name x p) "pop" apos) [] [] pos) pos2) := fun σ H F G env n D er en h => by
  refine (ps_asg (pe_bm0 PySem.F.plainAttrs_list PySem.F.slot_list_pop PySem.F.type_list_pop mt_pop (pe_var hi hv hd hd2) rfl hline) hg rfl (swStoresT rfl) rfl).w ?_
  simp only [evS] at h
  obtain ⟨xs, hxs, h⟩ := ofO_some h
  obtain ⟨a, vs, e1, e2, e3, r⟩ := er.own1 ho hxs
  split at h
  · rename_i d hd'
    obtain ⟨env1, he1, h⟩ := ofO_some h
    rw [List.getLast?_eq_getElem?] at hd'
    obtain ⟨v, hv', rv⟩ := r.get hd'
    refine ⟨_, e1, .inl ⟨rfl, _, SqL.of (er.gh _ _ e2)⟩, a, vs, v, rfl, rfl, er.gh _ _ e2, by rw [r.length]; exact hv', ?_⟩
    obtain ⟨er2, en2⟩ := er.mut (us := vs.dropLast) (es := xs.dropLast) en ho (getL_some hxs) e1 e2 e3 r.dropLast
    exact gOf_ok c.good.K er2 hoi rv he1 fun σ1 er3 _ _ => h σ1 _ F _ er3 en2
  · exact h.elim
/-- a, b = e -/
theorem ss_unp {g : Cfg} {L : Nat} {sc : Scope} (c : Ctx g X z W L S T sc) {is : List Nat} {e : Expr} {me : ME} {pos pt : Pos} {ts : List Expr} {kt : Nat} (hn : noComp e = true) (ht : noTup e = true) (hg : PG X (.Tuple ts kt pt) (gOf X.K is)) (hoi : ∀ j ∈ is, z.own j = 0) (he : SE X z W S T me e) (h2 : 2 ≤ lev z.own me) :
    SS X z W S T (.unp is me) (.Assign [.Tuple ts kt pt] e pos) := fun σ H F G env n D er en h => by
  refine (ps_asg (peW e) hg (swapsSole hn) (swStoresT ht) rfl).w ?_
  simp only [evS] at h
  refine he.useS er en h fun d n1 v H1 F1 G1 _ s1 er1 en1 r1 h1 => ?_
  obtain ⟨env1, he1, h1⟩ := ofO_some h1
  exact gOf_ok c.good.K er1 hoi (r1.two h2) he1 fun σ1 er3 _ _ => h1 σ1 _ F1 _ er3 en1
end
end L2.Ms

/-! # Mse: rows of one's own, from a comprehension of new lists -/
namespace L2.Ms
open PySem PySem.Spec PyProof.Rows Mv
section
variable {X : Cx} {z : Fx} {W : WX} {S : Sub} {T : Tab} {σ : St} {H F G H1 F1 G1 H2 F2 G2 : Hp} {env : Ev} {n n1 n2 : Nat} {D : Ends}
/-- a new list of new lists, told to nobody but G (the rows) -/
def PostR (z : Fx) (W : WX) (σ : St) (H F G : Hp) (o : Out Mv.D) (Q : VK) : Prop := match o with
  | .ok d n' => ∀ p vs ds, d = .lst ds → ∀ H' F' G', Step z H F G H' F' G' n' → H p = none → H' p = some (.lst vs) → G' p = none → z.pt ≠ some p → RowsL z.toCn F' G' vs ds → V.ref p ∉ vs → (∀ q, V.ref q ∈ vs → H q = none) → Q (.ref p) H'
  | .ex c n' => ∀ H' F' G', Step z H F G H' F' G' n' → W (.ref (He.ga z.K c)) none σ H'
  | .bad => False
theorem lst_is {as : MEs} {d : Mv.D} (h : evE S T (.lst as) env n = .ok d n1) : ∃ ds, d = .lst ds := by
  simp only [evE] at h
  cases h1 : evA S T as env n with
  | ok ds n2 =>
    rw [h1, Out.bind_ok] at h
    cases h2 : fit ds with
    | none => rw [h2] at h; cases h
    | some es => rw [h2] at h; cases h; exact ⟨es, rfl⟩
  | ex c n2 => rw [h1] at h; cases h
  | bad => rw [h1] at h; cases h
theorem sf_mul {as : MEs} {b : ME} {e1 e2 : Expr} {pos : Pos} (ha : SE X z W S T (.lst as) e1) (hl : 1 ≤ lev z.own (.lst as)) (hb : SE X z W S T b e2) : SF X z W S T (.p2 .mul (.lst as) b) (.BinOp e1 .Mult e2 pos) := fun σ H F G env n Q er h => by
  refine (pe_op (w2R (f := binaryOp .Mult)) (peW e1) (peW e2)).w (ha.useF er (by simpa only [evE] using h) fun d n1 v H1 F1 G1 hE s1 er1 r1 h1 => hb.useF er1 h1 fun d2 n2 v2 H2 F2 G2 _ s2 er2 r2 h2 => ?_)
  obtain ⟨ds, rfl⟩ := lst_is hE
  obtain ⟨r, hr, hq⟩ := h2.lift
  have rx := r1.mono s2.ff s2.gg
  obtain ⟨k, rfl⟩ : ∃ k, d2 = .int k := by
    cases d2 <;> first | exact ⟨_, rfl⟩ | (simp [sem2] at hr; done)
  have hr : (if k < 2 ^ 63 ∧ -(2 ^ 63) ≤ k ∧ ds.length * k.toNat ≤ line then some (Mv.D.lst (List.replicate k.toNat ds).flatten) else none) = some r := hr
  split at hr <;> cases hr
  rename_i hz
  obtain ⟨a, vs, rfl, ea, ra, fa⟩ := lvLst er2.fg rx
  exact op_rep.w ⟨a, _, vs, rfl, lvInt er2.fg r2, er2.gh _ _ ea, hz.2.1, hz.1, by rw [ra.length, ← line_eq]; exact hz.2.2, fun p hp => fin_F er2 hp ((fa hl).rep _) hq⟩
def tUF (z : Fx) (S : Sub) (T : Tab) (tg : List Nat) (e : ME) : TE := fun σ H Q => ∃ H0 F G env n, ER (z.blk H0 tg) σ H F G env n ∧ PostF (z.blk H0 tg) W0 σ H F G (evE S T e env n) Q
/-- all gathered are lists -/
def allL : List Mv.D → Bool
  | [] => true
  | .lst _ :: r => allL r
  | _ => false
theorem lc_loopR {L : Nat} (g : Good X z.toCn W L) {tg : List Nat} {two : Bool} {e : ME} {xs ys : List Mv.D} {n3 : Nat} {J : It} {Q : VK} (er1 : ER z σ H1 F1 G1 env n1) (wk : Wk z.toCn J xs (if two = true then F1 else G1) F1) (hlen : xs.length ≤ sizeLine)
    (h3 : gather (turnL (fun x => bindT tg x (wipeD env tg)) (evE S T (.c (.bl true))) (evE S T e)) xs n1 = .ok ys n3) (hall : allL ys = true)
    (k : ∀ D, H1 D = none → ∀ H2 F2 G2 accV, Step z H1 F1 G1 H2 F2 G2 n3 → H2 D = some (.lst accV) → G2 D = none → RowsL z.toCn F2 G2 accV ys → V.ref D ∉ accV → (∀ q, V.ref q ∈ accV → H1 q = none) → Q (.ref D) H2) :
    ∀ D, H1 D = none → ∃ W : Nat → Nat → Hp → Prop, (∃ m, W 0 m (upd H1 D (.lst []))) ∧ ∀ i m H, W i m H →
      (J.stop i H ∧ Q (.ref D) H) ∨ (J.go i H ∧ ∃ Nx : Hp → Prop, (∀ H', Nx H' → ∃ m', m' < m ∧ W (i + 1) m' H') ∧ ∀ x H', J.yld i H x H' → gOf X.K tg x (wipe σ tg) H' fun σ2 H2 => wipe σ2 tg = wipe σ tg ∧ tUT z S T tg (.c (.bl true)) σ2 H2 fun b H3 =>
        if b = true then tUF z S T tg e σ2 H3 fun y H4 => ∃ acc, H4 D = some (.lst acc) ∧ acc.length < sizeLine ∧ Nx (upd H4 D (.lst (acc ++ [y]))) else Nx H3) := by
  generalize hf : turnL (fun x => bindT tg x (wipeD env tg)) (evE S T (.c (.bl true))) (evE S T e) = f at h3
  intro D hD
  have hDt : z.pt ≠ some D := er1.notTown hD
  have hD0 : z.H0 D = none := er1.free0 hD
  let Wp : Nat → Nat → Hp → Prop := fun i m H2 => m = xs.length - i ∧ i ≤ xs.length ∧ ∃ F2 G2 n2 accV acc ys2, Step z H1 F1 G1 H2 F2 G2 n2 ∧ H2 D = some (.lst accV) ∧ G2 D = none ∧ RowsL z.toCn F2 G2 accV acc ∧
    V.ref D ∉ accV ∧ (∀ q, V.ref q ∈ accV → H1 q = none) ∧ acc.length ≤ i ∧ gather f (xs.drop i) n2 = .ok ys2 n3 ∧ ys = acc ++ ys2
  refine ⟨Wp, ⟨xs.length, by simp, Nat.zero_le _, F1, G1, n1, [], [], ys, er1.refl.newH er1.dom0 hD, upd_same, er1.gh.non hD, .nil, by simp, by simp, by simp, by simpa using h3, rfl⟩, ?_⟩
  rintro i m H2 ⟨rfl, hi, F2, G2, n2, accV, acc, ys2, st, hH2, hG2, rows, hDn, hnew, hacc, hga, hys⟩
  have er2 := er1.step st
  have leA : Le (if two = true then F1 else G1) H2 := by
    split
    · exact (er1.fg.trans st.gg).trans er2.gh
    · exact st.gg.trans er2.gh
  by_cases hlt : i < xs.length
  · refine .inr ⟨wk.go i H2 leA hlt, fun H' => Wp (i + 1) (xs.length - (i + 1)) H', fun H' p => ⟨_, by omega, p⟩, fun x H' y => ?_⟩
    obtain ⟨rfl, d, hd, rx⟩ := wk.yld i H2 x _ leA hlt y
    have hdrop : xs.drop i = d :: xs.drop (i + 1) := by
      rw [List.drop_eq_getElem_cons hlt]
      rw [List.getElem?_eq_getElem hlt] at hd
      cases hd
      rfl
    rw [hdrop] at hga
    unfold gather at hga
    split at hga
    · rename_i o n2' hfd
      split at hga
      · rename_i ys3 n4 hg3
        cases hga
        rw [← hf] at hfd
        unfold turnL at hfd
        split at hfd
        · rename_i env1 hb
          have erb := er2.blk tg
          have hown : ∀ k ∈ tg, (z.blk H' tg).own k = 0 := fun k hk => minus_in hk
          refine gOf_ok (z := z.blk H' tg) (by rw [g.K]; rfl) erb hown (rx.mono st.ff) hb fun σ1 er3 hoff hlen1 => ⟨?_, ?_⟩
          · exact (wipe_eq hoff hlen1).trans (wipe_eq (fun j hj => wipe_out hj) (wipe_length _ _))
          · refine ⟨H', F2, G2, env1, n2, er3, ?_⟩
            simp only [evE] at hfd ⊢
            intro H3 F3 G3 s3
            rw [if_pos rfl]
            split at hfd
            · rename_i y' n2b hea
              cases hfd
              refine ⟨H', F3, G3, env1, n2, er3.step s3, ?_⟩
              rw [hea]
              intro p vs ds hyd H4 F4 G4 s4 hp3 hp4 hg4 hpt rl
              have s34 := s3.trans s4
              have st4 := Step.unblk st s34
              have hD3 : H3 D = some (.lst accV) := s3.h0 D _ hH2 hDt
              have hpD : D ≠ p := fun e => by subst e; rw [hD3] at hp3; cases hp3
              have hD4 : H4 D = some (.lst accV) := s34.h0 D _ hH2 hDt
              have hG4 : G4 D = none := Classical.byContradiction fun q => by
                rcases s34.ng D q with q | q
                · exact q hG2
                · exact q.mut hH2 trivial
              have hp1 : H1 p = none := Classical.byContradiction fun q => s3.dom p (st.dom p q) hp3
              have inH3 : ∀ q, V.ref q ∈ accV → H3 q ≠ none := fun q hq => by
                obtain ⟨us, g1, _⟩ := rows.cell hq
                exact s3.dom q (by rw [er2.gh _ _ g1]; simp)
              have hpn : V.ref p ∉ accV := fun q => inH3 p q hp3
              have rows4 : RowsL z.toCn F4 (upd G4 p (.lst vs)) accV acc := rows.mono s34.ff fun q us m c f => by
                have hqp : q ≠ p := fun e => by subst e; exact inH3 q m hp3
                refine ⟨by rw [upd_ne hqp]; exact s34.gg _ _ c, Classical.byContradiction fun w => ?_⟩
                rcases s34.nf q w with w | w
                · exact w f
                · exact w.mut (er2.gh _ _ c) trivial
              subst hyd
              have rl : RepL z.toCn F4 vs ds := rl
              refine ⟨accV, hD4, by rw [rows.length]; omega, rfl, hlt, F4, upd G4 p (.lst vs), _, accV ++ [.ref p], acc ++ [.lst ds], ys3, (st4.tellG hp4 hp1 hg4 hpt).put hD (by rw [upd_ne hpD]; exact hG4) hD0 hDt, upd_same, by rw [upd_ne hpD]; exact hG4, rows4.snoc upd_same (s34.fg.non hg4) rl hpn, ?_, ?_, by simp; omega, hg3, by simpa using hys⟩
              · intro q
                rcases List.mem_append.mp q with q | q
                · exact hDn q
                · rw [List.mem_singleton] at q; injection q with q; exact hpD q
              · intro q hq
                rcases List.mem_append.mp hq with q1 | q1
                · exact hnew q q1
                · rw [List.mem_singleton] at q1; injection q1 with q1; subst q1; exact hp1
            · cases hfd
        · cases hfd
      · cases hga
    · cases hga
  · refine .inl ⟨wk.stop i H2 leA (by omega), ?_⟩
    have e0 : xs.drop i = [] := List.drop_eq_nil_of_le (by omega)
    rw [e0] at hga
    simp only [gather, Out.ok.injEq] at hga
    obtain ⟨rfl, rfl⟩ := hga
    rw [List.append_nil] at hys
    subst hys
    exact k D hD H2 F2 G2 accV st hH2 hG2 rows hDn hnew
/-- a reading to a list of new lists -/
def SR (X : Cx) (z : Fx) (W : WX) (S : Sub) (T : Tab) (me : ME) (e : Expr) : Prop := ∃ t : TE, PE X e t ∧
  (∀ (i : Nat) (y : Str) (py spos : Pos), X.N[i]? = some y → X.env.scope.names.lookup y = some .local → swapsWith e (some (.Name y py)) spos.line X.env = pure true → PS X (.Assign [.Name y py] e spos) (tAsg t (gName i))) ∧
  (∀ (σ : St) (H F G : Hp) (env : Ev) (n : Nat) (Q : VK), ER z σ H F G env n → PostR z W σ H F G (evE S T me env n) Q → t σ H Q)
theorem gather_allL {f : Mv.D → Nat → Out (Option Mv.D)} (hf : ∀ x n y n', f x n = .ok (some y) n' → ∃ ds, y = .lst ds) : ∀ (xs : List Mv.D) (n : Nat) (ys : List Mv.D) (n' : Nat), gather f xs n = .ok ys n' → allL ys = true
  | [], n, ys, n', h => by simp only [gather, Out.ok.injEq] at h; rw [← h.1]; rfl
  | x :: r, n, ys, n', h => by
    unfold gather at h
    split at h
    · rename_i o n1 ho
      split at h
      · rename_i zs n2 hz
        have ih := gather_allL hf r _ _ _ hz
        simp only [Out.ok.injEq] at h
        rw [← h.1]
        cases o with
        | none => exact ih
        | some y =>
          obtain ⟨ds, rfl⟩ := hf _ _ _ _ ho
          exact ih
      · cases h
    · cases h
theorem sr_lc {L : Nat} (g : Good X z.toCn W L) {tg : List Nat} {mi : MI} {e : ME} {elt tgE itE : Expr} {scope : Scope} {ow : List (Str × Nat)} {pos : Pos} (how : ow.map (·.2) = tg) (ok : BlkOk X.N X.env.scope scope ow) (hi : SI X z W S T mi tgE itE)
    (hg : ∀ (s : Shared) (H : Hp) (C : Addr) (cl : List (Str × Addr)) (fp : List Addr), PG (X.blk s H scope (compEnvC scope cl C X.env) fp) tgE (gOf X.K tg))
    (he : ∀ (H0 : Hp) (s : Shared) (H : Hp) (C : Addr) (cl : List (Str × Addr)) (fp : List Addr), SF (X.blk s H scope (compEnvC scope cl C X.env) fp) (z.blk H0 tg) W0 S T e elt)
    (hls : ∀ env n d n', evE S T e env n = .ok d n' → ∃ ds, d = .lst ds)
    (hs : ∀ x, foldedSetIterable itE X.env x = pure x) : SR X z W S T (.lc tg mi (.c (.bl true)) e) (.ListComp elt [⟨tgE, itE, [], 0⟩] scope pos) := by
  have ht' : ∀ (s : Shared) (H : Hp) (C : Addr) (cl : List (Str × Addr)) (fp : List Addr), PTs (X.blk s H scope (compEnvC scope cl C X.env) fp) [] (tUT z S T tg (.c (.bl true))) := fun s H C cl fp => by
    refine ⟨fun pins s' σ' H' Q' I hq => ?_⟩
    obtain ⟨H0, F', G', env', n', er', hq⟩ := hq
    exact pts_nil.run pins s' σ' H' Q' I (hq _ _ _ er'.refl)
  have he' : ∀ (s : Shared) (H : Hp) (C : Addr) (cl : List (Str × Addr)) (fp : List Addr), PE (X.blk s H scope (compEnvC scope cl C X.env) fp) elt (tUF z S T tg e) := fun s H C cl fp =>
    ⟨fun pins s' σ' H' Q' I ⟨H0, F', G', env', n', er', hq⟩ => he H0 s H C cl fp _ _ _ _ _ _ _ er' hq pins s' I⟩
  refine ⟨_, pe_lc g.calm g.nd (piW tgE itE) ok hg ht' he' hs, fun i y py spos hy hl hsw => ps_setLc g.calm g.nd hy hl hsw (piW tgE itE) ok hg ht' he' hs, fun σ H F G env n Q er h => ?_⟩
  rw [how]
  refine hi er ?_
  rw [evE.eq_15] at h
  cases h1 : evI S T mi env n with
  | ex c n1 => rw [h1] at h; exact h
  | bad => rw [h1] at h; exact h
  | ok xs n1 =>
    rw [h1, Out.bind_ok] at h
    intro J H1 F1 G1 s1 wk hlen
    cases h3 : gather (turnL (fun x => bindT tg x (wipeD env tg)) (evE S T (.c (.bl true))) (evE S T e)) xs n1 with
    | ex c n' => exact absurd h3 (gather_noex _ _ _ _)
    | bad => rw [h3] at h; exact h.elim
    | ok ys n3 =>
      have h : PostR z W σ H F G (((gather (turnL (fun x => bindT tg x (wipeD env tg)) (evE S T (.c (.bl true))) (evE S T e)) xs n1)).bind fun ys n => .ok (.lst ys) n) Q := h
      rw [h3, Out.bind_ok] at h
      have er1 := er.step s1
      have hal : allL ys = true := gather_allL (fun x n y n' hx => by
        unfold turnL at hx
        split at hx
        · split at hx
          · split at hx
            · rename_i hy
              cases hx
              exact hls _ _ _ _ hy
            · cases hx
          · cases hx
          · cases hx
        · cases hx) xs n1 ys n3 h3
      refine lc_loopR g er1 wk hlen h3 hal fun D hD H2 F2 G2 accV st hH2 hG2 rows hDn hnew => ?_
      have hHD : H D = none := Classical.byContradiction fun q => s1.dom D q hD
      exact h D accV ys rfl H2 F2 G2 (s1.trans st) hHD hH2 hG2 (er1.notTown hD) rows hDn fun q hq => Classical.byContradiction fun w => s1.dom q w (hnew q hq)
theorem ss_setR {e : Expr} {i : Nat} {x : Str} {p pos : Pos} {me : ME} {elt : Expr} {gs : List Comprehension} {scope : Scope} {q : Pos} (he : e = .ListComp elt gs scope q) (hl : SR X z W S T me e) (hN : X.N.Nodup) (hi : X.N[i]? = some x) (hx : Loc X.env.scope x) (hf : X.fn x = true ∨ X.env.scope.names.lookup x = some .local) (ho : 2 ≤ z.own i) :
    SS X z W S T (.set i me) (.Assign [.Name x p] e pos) := fun σ H F G env n D er en h => by
  subst he
  obtain ⟨t, h1, h2, hr⟩ := hl
  have ht : PS X (.Assign [.Name x p] (.ListComp elt gs scope q) pos) (tAsg t (gName i)) := by
    have e1 : swapsWith (.ListComp elt gs scope q) (some (.Name x p)) pos.line X.env = pure (X.env.blockKind == .function && X.env.kindOf x == some .local && p.line == q.line && !(scope.names.any fun (n, k) => n == x && (k == .local || k == .cell))) := rfl
    cases hb : (X.env.blockKind == .function && X.env.kindOf x == some .local && p.line == q.line && !(scope.names.any fun (n, k) => n == x && (k == .local || k == .cell))) with
    | true =>
      rw [hb] at e1
      have hloc : X.env.scope.names.lookup x = some .local := by
        simp only [Bool.and_eq_true] at hb
        exact beq_iff_eq.mp hb.1.1.2
      exact h2 i x p pos hi hloc e1
    | false =>
      rw [hb] at e1
      exact ps_set hN hi hx h1 e1 hf
  refine ht.w (hr σ H F G env n _ er ?_)
  simp only [evS] at h
  cases h1 : evE S T me env n with
  | ok d n1 =>
    rw [h1] at h
    intro p vs ds hd H1 F1 G1 st hp hH hG ht rows hDn hnew
    subst hd
    have er1 := er.step st
    refine h _ H1 F1 _ (er1.setG (i := i) (p := p) (vs := vs) (ds := ds) (by omega) (fun a u e => ?_) er1.h0 (fun a q => ?_) (er1.fg.non hG) (fun q => by omega) (fun _ => ⟨rows.off hDn, hDn⟩) fun j e q a hne he hj hs w => ?_) ((en.step er st).own (er.free0 hp))
    · by_cases q : a = p
      · subst q; rw [upd_same] at e; cases e; exact hH
      · rw [upd_ne q] at e; exact er1.gh a u e
    · have e : a ≠ p := fun e => ht (e ▸ q)
      rw [upd_ne e]; exact er1.tw a q
    · obtain ⟨us, g0, _⟩ := er.cell he hj hs
      have w0 : Owns G q (z.own j) a := w.same g0 (st.gg _ _ g0)
      obtain ⟨us2, g2, _⟩ := er.ownsCell he hj hs w0
      have hHa : H a ≠ none := by rw [er.gh _ _ g2]; simp
      exact ⟨fun e => by subst e; exact hHa hp, fun _ m => hHa (hnew a m)⟩
  | ex c n1 =>
    rw [h1] at h
    exact fun H1 F1 G1 st => h σ H1 F1 G1 (er.step st) (en.step er st)
  | bad => rw [h1] at h; exact h
/-- may be stored one by one -/
def parOk (sc : Scope) (x y : Str) (px py : Pos) (a b : Expr) : Bool := decide (x ≠ y) && decide (sc.names.lookup x = some .local) && decide (sc.names.lookup y = some .local) && (px.line == py.line) && noStar a && noStar b && !([a, b].all (foldedForSure 8)) && !([a, b].all (constantsAlone 8))
theorem swapped_par {x y : Str} {px py pt pt2 : Pos} {kt k2 : Nat} {a b : Expr} {e : Env} (hb : e.blockKind = .function) (h : parOk e.scope x y px py a b = true) : swappedStores [.Tuple [.Name x px, .Name y py] kt pt] (.Tuple [a, b] k2 pt2) e = pure (some [x, y]) := by
  unfold parOk at h
  simp only [Bool.and_eq_true, decide_eq_true_eq, Bool.not_eq_true', beq_iff_eq] at h
  obtain ⟨⟨⟨⟨⟨⟨⟨h1, h2⟩, h3⟩, h4⟩, h5⟩, h6⟩, h7⟩, h8⟩ := h
  have na : (fun | Expr.Starred .. => true | _ => false) a = false := by clear h7 h8; cases a <;> first | rfl | (simp [noStar] at h5)
  have nb : (fun | Expr.Starred .. => true | _ => false) b = false := by clear h7 h8; cases b <;> first | rfl | (simp [noStar] at h6)
  have k1 : e.kindOf x = some .local := h2
  have k2' : e.kindOf y = some .local := h3
  have hyx : (y == x) = false := by simp [Ne.symm h1]
  have hxy : (x == y) = false := by simp [h1]
  have hany : ([a, b].any fun | .Starred .. => true | _ => false) = false := by
    simp only [List.any_cons, List.any_nil, Bool.or_false]
    rw [Bool.or_eq_false_iff]
    exact ⟨na, nb⟩
  have e1 : (py.line == px.line) = true := by rw [h4]; exact beq_self_eq_true _
  have hnm : [x, y].eraseDups.length = 2 := by
    simp [List.eraseDups, List.eraseDupsBy, List.eraseDupsBy.loop, hxy, hyx]
  have hnames : ([Expr.Name x px, Expr.Name y py].filterMap fun | .Name id pos => if e.kindOf id == some .local && pos.line == px.line then some id else none | _ => none) = [x, y] := by
    simp [k1, k2', e1, h4]
  have h7' : ([a, b].all (foldedForSure 8)) = false := h7
  have h8' : ([a, b].all (constantsAlone 8)) = false := h8
  have c1 : (!([Expr.Name x px, Expr.Name y py].length == 2 || [Expr.Name x px, Expr.Name y py].length == 3) || [a, b].length != [Expr.Name x px, Expr.Name y py].length || e.blockKind != .function) = false := by rw [hb]; rfl
  have c2 : ([x, y].length != [Expr.Name x px, Expr.Name y py].length || [x, y].eraseDups.length != [x, y].length) = false := by rw [hnm]; rfl
  show (if (!([Expr.Name x px, Expr.Name y py].length == 2 || [Expr.Name x px, Expr.Name y py].length == 3) || [a, b].length != [Expr.Name x px, Expr.Name y py].length || e.blockKind != .function) = true then pure none else if ([a, b].any fun | .Starred .. => true | _ => false) = true then pure none else
    if (([Expr.Name x px, Expr.Name y py].filterMap fun | .Name id pos => if e.kindOf id == some .local && pos.line == px.line then some id else none | _ => none).length != [Expr.Name x px, Expr.Name y py].length || ([Expr.Name x px, Expr.Name y py].filterMap fun | .Name id pos => if e.kindOf id == some .local && pos.line == px.line then some id else none | _ => none).eraseDups.length != ([Expr.Name x px, Expr.Name y py].filterMap fun | .Name id pos => if e.kindOf id == some .local && pos.line == px.line then some id else none | _ => none).length) = true then pure none else
    if ([a, b].all (foldedForSure 8)) = true then pure none else if ([a, b].all (constantsAlone 8)) = true then (do let _ ← unsupported "assign.tuple-of-constant-expressions:order-of-the-stores"; pure (some ([Expr.Name x px, Expr.Name y py].filterMap fun | .Name id pos => if e.kindOf id == some .local && pos.line == px.line then some id else none | _ => none))) else pure (some ([Expr.Name x px, Expr.Name y py].filterMap fun | .Name id pos => if e.kindOf id == some .local && pos.line == px.line then some id else none | _ => none)) : Sem (Option (List Str))) = pure (some [x, y])
  rw [hnames, c1, hany, c2, h7', h8']
  rfl
theorem ss_par {i j : Nat} {x y : Str} {px py pt pt2 pos : Pos} {kt k2 : Nat} {a b : Expr} {ma mb : ME} (hc : X.calm = true) (hN : X.N.Nodup) (hi : X.N[i]? = some x) (hj : X.N[j]? = some y) (hij : i ≠ j) (hb : X.env.blockKind = .function) (hp : parOk X.env.scope x y px py a b = true) (oi : z.own i = 0) (oj : z.own j = 0)
    (ha : SE X z W S T ma a) (hb2 : SE X z W S T mb b) (l1 : 2 ≤ lev z.own ma) (l2 : 2 ≤ lev z.own mb) :
    SS X z W S T (.par i j ma mb) (.Assign [.Tuple [.Name x px, .Name y py] kt pt] (.Tuple [a, b] k2 pt2) pos) := fun σ H F G env n D er en h => by
  have hp' := hp
  unfold parOk at hp'
  simp only [Bool.and_eq_true, decide_eq_true_eq, Bool.not_eq_true', beq_iff_eq] at hp'
  obtain ⟨⟨⟨⟨⟨⟨⟨_, h2⟩, h3⟩, _⟩, h5⟩, h6⟩, _⟩, _⟩ := hp'
  refine (ps_par (pos := pos) hc hN hi hj hij h2 h3 (pa_cons (peW a) (pa_cons (peW b) pa_nil (starEach_cons [] _ h6)) (starEach_cons [b] _ h5)) (swapped_par hb hp) rfl).w ?_
  simp only [evS] at h
  refine ha.useS er en h fun d n1 v H1 F1 G1 _ s1 er1 en1 r1 h1 => hb2.useS er1 en1 h1 fun d2 n2 v2 H2 F2 G2 _ s2 er2 en2 r2 h3 => ?_
  exact ⟨v, v2, rfl, h3 _ H2 F2 G2 ((er2.set oi ((r1.two l1).mono s2.ff)).set oj (r2.two l2)) en2⟩
end
end L2.Ms

/-! # Msf: readings whose lists are all new -/
namespace L2.Ms
open PySem PySem.Spec PyProof.Rows Mv
mutual
theorem Rep.tupO {c : Cn} {F : Hp} : ∀ {v : V} {d : D}, Rep c F v d → nol d = true → Rep c (tupO F) v d
  | _, _, .non, _ => .non
  | _, _, .bl b, _ => .bl b
  | _, _, .int i, _ => .int i
  | _, _, .str x, _ => .str x
  | _, _, .tup e r, h => .tup (tupO_of e) (RepL.tupO r (by simpa [nol] using h))
  | _, _, .lst e r, h => by simp [nol] at h
  | _, _, .exc e, h => by simp [nol] at h
  | _, _, .scr e, h => by simp [nol] at h
  | _, _, .town e, h => by simp [nol] at h
  | _, _, .dic e r, h => by simp [nol] at h
  | _, _, .dit e r, h => by simp [nol] at h
  | _, _, .fdk e r, h => by simp [nol] at h
  | _, _, .fdt e r, h => by simp [nol] at h
theorem RepL.tupO {c : Cn} {F : Hp} : ∀ {v : List V} {d : List D}, RepL c F v d → nolAll d = true → RepL c (tupO F) v d
  | _, _, .nil, _ => .nil
  | _, _, .cons h t, q => by
    simp only [nolAll, Bool.and_eq_true] at q
    exact .cons (Rep.tupO h q.1) (RepL.tupO t q.2)
end
/-- a part of the heap whose lists are new and told to nobody -/
structure NewN (H G' H' N : Hp) : Prop where
  le : Le N H'
  ls : ∀ a o, N a = some o → Mut (some o) → H a = none ∧ G' a = none
  nn : ∀ a, N a ≠ none → G' a ≠ none ∨ Fr H a
def PostD (z : Fx) (W : WX) (σ : St) (H F G : Hp) (o : Out D) (Q : VK) : Prop := match o with
  | .ok d n' => ∀ v N H' F' G', Step z H F G H' F' G' n' → NewN H G' H' N → Rep z.toCn N v d → Q v H'
  | .ex c n' => ∀ H' F' G', Step z H F G H' F' G' n' → W (.ref (He.ga z.K c)) none σ H'
  | .bad => False
def SD (X : Cx) (z : Fx) (W : WX) (S : Sub) (T : Tab) (me : MD) (e : Expr) : Prop := ∀ (σ : St) (H F G : Hp) (env : Ev) (n : Nat) (Q : VK), ER z σ H F G env n → PostD z W σ H F G (evD S T me env n) Q → wE X e σ H Q
section
variable {X : Cx} {z : Fx} {W : WX} {S : Sub} {T : Tab} {σ : St} {H F G H1 F1 G1 H2 F2 G2 : Hp} {env : Ev} {n n1 n2 : Nat} {D : Ends}
theorem NewN.back {G' H' N : Hp} (s : Step z H F G H1 F1 G1 n1) (h : NewN H1 G' H' N) : NewN H G' H' N := by
  have k : ∀ a, H1 a = none → H a = none := fun a q => Classical.byContradiction fun w => s.dom a w q
  exact ⟨h.le, fun a xs q m => ⟨k a (h.ls a xs q m).1, (h.ls a xs q m).2⟩, fun a q => (h.nn a q).imp id s.fr⟩
theorem PostD.step {o : Out Mv.D} {Q : VK} (st : Step z H F G H1 F1 G1 n1) (h : PostD z W σ H F G o Q) : PostD z W σ H1 F1 G1 o Q := by
  cases o with
  | ok d n' => exact fun v N H' F' G' s nw r => h v N H' F' G' (st.trans s) (nw.back st) r
  | ex c n' => exact fun H' F' G' s => h H' F' G' (st.trans s)
  | bad => exact h
theorem sd_bad {e : Expr} : SD X z W S T .bad e := fun _ _ _ _ _ _ _ _ h => h.elim
theorem SA.useD {as : MEs} {es : List Expr} (ha : SA X z W S T as es) (er : ER z σ H F G env n) {f : List Mv.D → Nat → Out Mv.D} {Q : VK} {Q1 : List V → Hp → Prop} (h : PostD z W σ H F G ((evA S T as env n).bind f) Q)
    (k : ∀ ds n1 vs H1 F1 G1, Step z H F G H1 F1 G1 n1 → ER z σ H1 F1 G1 env n1 → RepL z.toCn G1 vs ds → (levA z.own as = true → RepL z.toCn F1 vs ds) → PostD z W σ H1 F1 G1 (f ds n1) Q → Q1 vs H1) : wA X es σ H Q1 := by
  refine ha er ?_
  cases h1 : evA S T as env n with
  | ok d n1 =>
    rw [h1] at h
    exact fun v H1 F1 G1 st r r2 => k d n1 v H1 F1 G1 st (er.step st) r r2 (PostD.step st h)
  | ex c n1 => rw [h1] at h; exact h
  | bad => rw [h1] at h; exact h
theorem sd_chk {a : ME} {e : Expr} (ha : SE X z W S T a e) : SD X z W S T (.chk a) e := fun σ H F G env n Q er h => by
  refine ha er ?_
  simp only [evD] at h
  cases h1 : evE S T a env n with
  | ok d n1 =>
    rw [h1, Out.bind_ok] at h
    split at h
    · rename_i hn
      intro v H1 F1 G1 st r
      exact h v (tupO G1) H1 F1 G1 st ⟨tupO_le.trans st.gh, fun a xs q m => absurd m (tupO_mut q), fun a q => .inl (tupO_le.has q)⟩ ((r.g st.fg).tupO hn)
    · exact h.elim
  | ex c n1 => rw [h1] at h; exact h
  | bad => rw [h1] at h; exact h
/-- a def's call: nothing is told -/
theorem StepC.toStep0 {H F G H' F0 F' : Hp} {σ : St} {env : Ev} {n n' : Nat} (er : ER z σ H F G env n) (s : StepC z.pt H F0 H' F' n') : Step z H F G H' F G n' := by
  refine ⟨.rfl, .rfl, er.fg, fun a o e => s.keep a o (er.gh a o e) fun q => ?_, fun a h => .inl h, fun a h => .inl h, s.keep, fun a o h q => s.keep a o (er.h0 a o h q) q, fun a h => ?_, fun a q => ⟨(s.tw a q).1, (er.tw a q).2⟩⟩
  · rw [(er.tw a q).2.1] at e
    cases e
  · by_cases q : z.pt = some a
    · rw [(s.tw a q).1]; simp
    · cases e : H a with
      | none => exact absurd e h
      | some o => rw [s.keep a o e q]; simp
theorem sd_callD {L : Nat} {f : Str} {as : MEs} {e : Expr} {es : List Expr} {p pos : Pos} (hf : freN f = true) (g : Good X z.toCn W L) (tab : TabOk X.prog X.w X.K X.mg X.base L T) (hg : Gl X f) (hd : (f == ("__debug__" : Str)) = false) (hsp : isSpoil f = false) (hn : (e :: es).all noStar = true) (ha : SA X z W S T as (e :: es)) :
    SD X z W S T (.callD f as) (.Call (.Name f p) (e :: es) [] pos) := fun σ H F G env n Q er h => by
  simp only [List.all_cons, Bool.and_eq_true] at hn
  simp only [evD, evE] at h
  cases hT : T f with
  | none => rw [hT] at h; exact h.elim
  | some kr =>
    obtain ⟨k, run⟩ := kr
    rw [hT] at h
    obtain ⟨a, fd, ps, ok, hm, hk, hbd, hps⟩ := (tab f k run hT).ex
    rw [spG_of hsp] at ok
    refine (pe_callS ok g.room hg hm hk hbd (fun σ => passAt g.tk σ) (paW _) hd (starEach_cons es _ hn.1) (starEach_plain _ hn.2)).w (ha.useD er h fun ds n1 vs H1 F1 G1 s1 er1 r rf h1 => ?_)
    split at h1
    · rename_i hl
      refine ⟨by rw [r.length]; exact hl, z.pt, G1, n1, ds, er1.gh, fun a q => ⟨(er1.tw a q).1, (er1.tw a q).2.1⟩, by rw [g.K]; exact r, ?_⟩
      rw [g.K]
      revert h1
      cases run ds n1 with
      | ok d n' =>
        intro h1 v H' F' st r hfr
        obtain ⟨N, a1, a2, a3⟩ := hfr hf
        exact h1 v N H' F1 G1 (StepC.toStep0 er1 st) ⟨a1.trans st.fh, fun a xs q m => ⟨a2 a xs q m, er1.gh.non (a2 a xs q m)⟩, fun a q => st.nf a (a1.has q)⟩ a3
      | ex c n' => exact fun h1 H' F' st => h1 H' F1 G1 (StepC.toStep0 er1 st)
      | bad => exact fun h1 => h1
    · exact h1.elim
theorem sd_callN {L : Nat} {f : Str} {as : MEs} {e : Expr} {es : List Expr} {p pos : Pos} (g : Good X z.toCn W L) (tab : TabOk X.prog X.w X.K X.mg X.base L T) (hg : Gl X f) (hd : (f == ("__debug__" : Str)) = false) (hsp : isSpoil f = false) (hn : (e :: es).all noStar = true) (ha : SA X z W S T as (e :: es)) :
    SD X z W S T (.callN f as) (.Call (.Name f p) (e :: es) [] pos) := fun σ H F G env n Q er h => by
  simp only [List.all_cons, Bool.and_eq_true] at hn
  simp only [evD] at h
  cases hT : T f with
  | none => rw [hT] at h; exact h.elim
  | some kr =>
    obtain ⟨k, run⟩ := kr
    rw [hT] at h
    obtain ⟨a, fd, ps, ok, hm, hk, hbd, hps⟩ := (tab f k run hT).ex
    rw [spG_of hsp] at ok
    refine (pe_callS ok g.room hg hm hk hbd (fun σ => passAt g.tk σ) (paW _) hd (starEach_cons es _ hn.1) (starEach_plain _ hn.2)).w (ha.useD er h fun ds n1 vs H1 F1 G1 s1 er1 r rf h1 => ?_)
    split at h1
    · rename_i hl
      refine ⟨by rw [r.length]; exact hl.1, z.pt, Ms.tupO G1, n1, ds, tupO_le.trans er1.gh, fun a q => ⟨(er1.tw a q).1, tupO_le.non (er1.tw a q).2.1⟩, by rw [g.K]; exact r.tupO hl.2, ?_⟩
      rw [g.K]
      revert h1
      cases run ds n1 with
      | ok d n' =>
        intro h1 v H' F' st r _
        have key : ∀ a o, F' a = some o → Mut (some o) → H1 a = none := fun a o q m => by
          rcases st.nf a (by rw [q]; simp) with w | w
          · cases e0 : Ms.tupO G1 a with
            | none => exact absurd e0 w
            | some o =>
              obtain ⟨ys, rfl, _⟩ := tupO_some e0
              rw [st.ff _ _ e0] at q
              cases q
              exact m.elim
          · rcases w with w | ⟨ys, w⟩
            · exact w
            · have e1 := st.fh _ _ q
              rw [st.keep a _ w fun e => by rw [(er1.tw a e).1] at w; cases w] at e1
              cases e1
              exact m.elim
        exact h1 v F' H' F1 G1 (StepC.toStep0 er1 st) ⟨st.fh, fun a xs q m => ⟨key a xs q m, er1.gh.non (key a xs q m)⟩, fun a q => (st.nf a q).imp tupO_le.has id⟩ r
      | ex c n' => exact fun h1 H' F' st => h1 H' F1 G1 (StepC.toStep0 er1 st)
      | bad => exact fun h1 => h1
    · exact h1.elim
theorem sd_nls {a : ME} {e : Expr} (ha : SF X z W S T a e) : SD X z W S T (.nls a) e := fun σ H F G env n Q er h => by
  refine ha σ H F G env n Q er ?_
  simp only [evD] at h
  cases h1 : evE S T a env n with
  | ok d n1 =>
    rw [h1, Out.bind_ok] at h
    intro p vs ds hd H1 F1 G1 st hp hH hG ht r
    subst hd
    dsimp only at h
    split at h
    · rename_i hn
      have tp : Ms.tupO F1 p = none := tupO_le.non (st.fg.non hG)
      refine h (.ref p) (upd (Ms.tupO F1) p (.lst vs)) H1 F1 G1 st ⟨fun a o q => ?_, fun a xs q m => ?_, fun a q => ?_⟩ (.lst upd_same ((r.tupO hn).mono (Le.grow tp)))
      · by_cases e : a = p
        · subst e; rw [upd_same] at q; cases q; exact hH
        · rw [upd_ne e] at q; exact st.gh _ _ (st.fg _ _ (tupO_le _ _ q))
      · by_cases e : a = p
        · subst e; exact ⟨hp, hG⟩
        · rw [upd_ne e] at q; exact absurd m (tupO_mut q)
      · by_cases e : a = p
        · subst e; exact .inr (.inl hp)
        · rw [upd_ne e] at q; exact .inl (st.fg.has (tupO_le.has q))
    · exact h.elim
  | ex c n1 => rw [h1] at h; exact h
  | bad => rw [h1] at h; exact h
theorem sd_ite {t : ME} {a b : MD} {e0 e1 e2 : Expr} {pos : Pos} (ht : ST X z W S T t e0) (ha : SD X z W S T a e1) (hb : SD X z W S T b e2) : SD X z W S T (.ite t a b) (.IfExp e0 e1 e2 pos) := fun σ H F G env n Q er h => by
  refine (pe_ifExp (ptW e0) (peW e1) (peW e2)).w (ht er ?_)
  simp only [evD] at h
  cases h1 : evE S T t env n with
  | ok d n1 =>
    rw [h1, Out.bind_ok] at h
    cases d with
    | bl c =>
      intro H1 F1 G1 s1
      cases c with
      | true => rw [if_pos rfl]; exact ha _ _ _ _ _ _ _ (er.step s1) (PostD.step s1 h)
      | false => rw [if_neg Bool.false_ne_true]; exact hb _ _ _ _ _ _ _ (er.step s1) (PostD.step s1 h)
    | _ => exact h.elim
  | ex c n1 => rw [h1] at h; exact h
  | bad => rw [h1] at h; exact h
/-- a new object behind a part -/
theorem NewN.new {N : Hp} {p : Addr} {o : HO} (h : NewN H G1 H1 N) (s : Step z H F G H1 F1 G1 n1) (hp : H1 p = none) : NewN H G1 (upd H1 p o) (upd N p o) := by
  have k : H p = none := Classical.byContradiction fun w => s.dom p w hp
  refine ⟨h.le.both, fun a xs q m => ?_, fun a q => ?_⟩
  · by_cases e : a = p
    · subst e; exact ⟨k, s.gh.non hp⟩
    · rw [upd_ne e] at q; exact h.ls a xs q m
  · by_cases e : a = p
    · subst e; exact .inr (.inl k)
    · rw [upd_ne e] at q; exact h.nn a q
theorem sd_tupD {a : MD} {e : Expr} {q pos : Pos} (hg : Gl X "tuple") (hm : X.mg "tuple" = none) (hn : noStar e = true) (ha : SD X z W S T a e) : SD X z W S T (.tupD a) (.Call (.Name "tuple" q) [e] [] pos) := fun σ H F G env n Q er h => by
  refine (pe_callTy (T := "tuple") wCR hg hm (by decide +kernel) (pa_cons (peW e) pa_nil (starEach_cons [] _ hn)) (by decide) (by decide) (starEach_cons [] _ hn) rfl).w (ha σ H F G env n _ er ?_)
  simp only [evD] at h
  cases h1 : evD S T a env n with
  | ok d n1 =>
    rw [h1, Out.bind_ok] at h
    intro v N H1 F1 G1 s1 nw r
    cases d with
    | lst ds =>
      obtain ⟨b, vs, rfl, eb, rb⟩ := r.lstE
      have er1 := er.step s1
      refine call_tuple_of.w ⟨b, vs, rfl, .inl ⟨SqL.of (nw.le _ _ eb), fun p hp => ?_⟩⟩
      exact h (.ref p) (upd N p (.tup vs)) _ F1 G1 (s1.newH er1.dom0 hp) (nw.new s1 hp) (.tup upd_same (rb.mono (Le.grow (nw.le.non hp))))
    | _ => exact h.elim
  | ex c n1 => rw [h1] at h; exact h
  | bad => rw [h1] at h; exact h
theorem sd_lst1 {a : MD} {e : Expr} {pos : Pos} (hn : noStar e = true) (ha : SD X z W S T a e) : SD X z W S T (.lst1 a) (.List [e] pos) := fun σ H F G env n Q er h => by
  refine (pe_lst (pa_cons (peW e) pa_nil (starEach_cons [] _ hn))).w (ha σ H F G env n _ er ?_)
  simp only [evD] at h
  cases h1 : evD S T a env n with
  | ok d n1 =>
    rw [h1, Out.bind_ok] at h
    intro v N H1 F1 G1 s1 nw r
    have er1 := er.step s1
    refine ⟨by rw [← line_eq]; show 1 ≤ 16777216; omega, fun p hp => ?_⟩
    exact h (.ref p) (upd N p (.lst [v])) _ F1 G1 (s1.newH er1.dom0 hp) (nw.new s1 hp) (.lst upd_same (.cons (r.mono (Le.grow (nw.le.non hp))) .nil))
  | ex c n1 => rw [h1] at h; exact h
  | bad => rw [h1] at h; exact h
/-! ### comprehensions -/
def tUD (z : Fx) (S : Sub) (T : Tab) (tg : List Nat) (e : MD) : TE := fun σ H Q => ∃ H0 F G env n, ER (z.blk H0 tg) σ H F G env n ∧ PostD (z.blk H0 tg) W0 σ H F G (evD S T e env n) Q
theorem lc_loopD {L : Nat} (g : Good X z.toCn W L) {tg : List Nat} {two : Bool} {e : MD} {xs ys : List Mv.D} {n3 : Nat} {J : It} {Q : VK} (er1 : ER z σ H1 F1 G1 env n1) (wk : Wk z.toCn J xs (if two = true then F1 else G1) F1) (hlen : xs.length ≤ sizeLine)
    (h3 : gather (turnD (fun x => bindT tg x (wipeD env tg)) (evD S T e)) xs n1 = .ok ys n3)
    (k : ∀ D, H1 D = none → ∀ H2 F2 G2 N accV, Step z H1 F1 G1 H2 F2 G2 n3 → H2 D = some (.lst accV) → NewN H1 G2 H2 N → N D = none → G2 D = none → RepL z.toCn N accV ys → Q (.ref D) H2) :
    ∀ D, H1 D = none → ∃ W : Nat → Nat → Hp → Prop, (∃ m, W 0 m (upd H1 D (.lst []))) ∧ ∀ i m H, W i m H →
      (J.stop i H ∧ Q (.ref D) H) ∨ (J.go i H ∧ ∃ Nx : Hp → Prop, (∀ H', Nx H' → ∃ m', m' < m ∧ W (i + 1) m' H') ∧ ∀ x H', J.yld i H x H' → gOf X.K tg x (wipe σ tg) H' fun σ2 H2 => wipe σ2 tg = wipe σ tg ∧ tUT z S T tg (.c (.bl true)) σ2 H2 fun b H3 =>
        if b = true then tUD z S T tg e σ2 H3 fun y H4 => ∃ acc, H4 D = some (.lst acc) ∧ acc.length < sizeLine ∧ Nx (upd H4 D (.lst (acc ++ [y]))) else Nx H3) := by
  generalize hf : turnD (fun x => bindT tg x (wipeD env tg)) (evD S T e) = f at h3
  intro D hD
  have hDt : z.pt ≠ some D := er1.notTown hD
  have hD0 : z.H0 D = none := er1.free0 hD
  let Wp : Nat → Nat → Hp → Prop := fun i m H2 => m = xs.length - i ∧ i ≤ xs.length ∧ ∃ F2 G2 n2 accV acc ys2 N, Step z H1 F1 G1 H2 F2 G2 n2 ∧ H2 D = some (.lst accV) ∧ G2 D = none ∧ NewN H1 G2 H2 N ∧ N D = none ∧ RepL z.toCn N accV acc ∧
    acc.length ≤ i ∧ gather f (xs.drop i) n2 = .ok ys2 n3 ∧ ys = acc ++ ys2
  refine ⟨Wp, ⟨xs.length, by simp, Nat.zero_le _, F1, G1, n1, [], [], ys, fun _ => none, er1.refl.newH er1.dom0 hD, upd_same, er1.gh.non hD, ⟨(fun _ _ q => by cases q), (fun _ _ q => by cases q), fun _ q => absurd rfl q⟩, rfl, .nil, by simp, by simpa using h3, rfl⟩, ?_⟩
  rintro i m H2 ⟨rfl, hi, F2, G2, n2, accV, acc, ys2, N, st, hH2, hG2, nw, hND, rl, hacc, hga, hys⟩
  have er2 := er1.step st
  have leA : Le (if two = true then F1 else G1) H2 := by
    split
    · exact (er1.fg.trans st.gg).trans er2.gh
    · exact st.gg.trans er2.gh
  by_cases hlt : i < xs.length
  · refine .inr ⟨wk.go i H2 leA hlt, fun H' => Wp (i + 1) (xs.length - (i + 1)) H', fun H' p => ⟨_, by omega, p⟩, fun x H' y => ?_⟩
    obtain ⟨rfl, d, hd, rx⟩ := wk.yld i H2 x _ leA hlt y
    have hdrop : xs.drop i = d :: xs.drop (i + 1) := by
      rw [List.drop_eq_getElem_cons hlt]
      rw [List.getElem?_eq_getElem hlt] at hd
      cases hd
      rfl
    rw [hdrop] at hga
    unfold gather at hga
    split at hga
    · rename_i o n2' hfd
      split at hga
      · rename_i ys3 n4 hg3
        cases hga
        rw [← hf] at hfd
        unfold turnD at hfd
        split at hfd
        · rename_i env1 hb
          have erb := er2.blk tg
          have hown : ∀ k ∈ tg, (z.blk H' tg).own k = 0 := fun k hk => minus_in hk
          refine gOf_ok (z := z.blk H' tg) (by rw [g.K]; rfl) erb hown (rx.mono st.ff) hb fun σ1 er3 hoff hlen1 => ⟨?_, ?_⟩
          · exact (wipe_eq hoff hlen1).trans (wipe_eq (fun j hj => wipe_out hj) (wipe_length _ _))
          · refine ⟨H', F2, G2, env1, n2, er3, ?_⟩
            simp only [evE]
            intro H3 F3 G3 s3
            rw [if_pos rfl]
            split at hfd
            · rename_i y' n2b hea
              cases hfd
              refine ⟨H', F3, G3, env1, n2, er3.step s3, ?_⟩
              rw [hea]
              intro v N1 H4 F4 G4 s4 nw1 rv
              have s34 := s3.trans s4
              have st4 := Step.unblk st s34
              have hD3 : H3 D = some (.lst accV) := s3.h0 D _ hH2 hDt
              have hD4 : H4 D = some (.lst accV) := s34.h0 D _ hH2 hDt
              have hG4 : G4 D = none := Classical.byContradiction fun q => by
                rcases s34.ng D q with q | q
                · exact q hG2
                · exact q.mut hH2 trivial
              have nt : ∀ a, N a ≠ none → z.pt ≠ some a := fun a q w => by
                rcases nw.nn a q with u | u
                · exact u (er2.tw a w).2.1
                · exact u.mut (er1.tw a w).1 trivial
              have leN : Le N H4 := fun a o q => s34.h0 a o (nw.le a o q) (nt a (by rw [q]; simp))
              have h31 : ∀ a, H3 a = none → H1 a = none := fun a q => Classical.byContradiction fun w => s3.dom a (st.dom a w) q
              have hN1D : N1 D = none := Classical.byContradiction fun q => by
                rcases nw1.nn D q with u | u
                · exact u hG4
                · exact u.mut hD3 trivial
              have hUD : un N N1 D = none := by unfold un; rw [hND]; exact hN1D
              have leU : Le (un N N1) H4 := un_le leN nw1.le
              have nwU : NewN H1 G4 H4 (un N N1) := by
                refine ⟨leU, fun a xs q m => ?_, fun a q => ?_⟩
                · unfold un at q
                  split at q
                  · rename_i u hu
                    cases q
                    obtain ⟨b1, b2⟩ := nw.ls a xs hu m
                    refine ⟨b1, Classical.byContradiction fun w => ?_⟩
                    rcases s34.ng a w with w | w
                    · exact w b2
                    · exact w.mut (nw.le _ _ hu) m
                  · exact ⟨h31 a (nw1.ls a xs q m).1, (nw1.ls a xs q m).2⟩
                · rcases un_none q with q | q
                  · exact (nw.nn a q).imp s34.gg.has id
                  · exact (nw1.nn a q).imp id fun w => st.fr (s3.fr w)
              refine ⟨accV, hD4, by rw [rl.length]; omega, rfl, hlt, F4, G4, _, accV ++ [v], acc ++ [y'], ys3, un N N1, st4.put hD hG4 hD0 hDt, upd_same, hG4, ⟨leU.right hUD, nwU.ls, nwU.nn⟩, hUD, (rl.mono un_left).append (.cons (rv.mono (un_right leN nw1.le)) .nil), by simp; omega, hg3, by simpa using hys⟩
            · cases hfd
        · cases hfd
      · cases hga
    · cases hga
  · refine .inl ⟨wk.stop i H2 leA (by omega), ?_⟩
    have e0 : xs.drop i = [] := List.drop_eq_nil_of_le (by omega)
    rw [e0] at hga
    simp only [gather, Out.ok.injEq] at hga
    obtain ⟨rfl, rfl⟩ := hga
    rw [List.append_nil] at hys
    subst hys
    exact k D hD H2 F2 G2 N accV st hH2 nw hND hG2 rl
theorem sd_lc {L : Nat} (g : Good X z.toCn W L) {tg : List Nat} {mi : MI} {e : MD} {elt tgE itE : Expr} {scope : Scope} {ow : List (Str × Nat)} {pos : Pos} (how : ow.map (·.2) = tg) (ok : BlkOk X.N X.env.scope scope ow) (hi : SI X z W S T mi tgE itE)
    (hg : ∀ (s : Shared) (H : Hp) (C : Addr) (cl : List (Str × Addr)) (fp : List Addr), PG (X.blk s H scope (compEnvC scope cl C X.env) fp) tgE (gOf X.K tg))
    (he : ∀ (H0 : Hp) (s : Shared) (H : Hp) (C : Addr) (cl : List (Str × Addr)) (fp : List Addr), SD (X.blk s H scope (compEnvC scope cl C X.env) fp) (z.blk H0 tg) W0 S T e elt)
    (hs : ∀ x, foldedSetIterable itE X.env x = pure x) : SD X z W S T (.lc tg mi e) (.ListComp elt [⟨tgE, itE, [], 0⟩] scope pos) := by
  have ht' : ∀ (s : Shared) (H : Hp) (C : Addr) (cl : List (Str × Addr)) (fp : List Addr), PTs (X.blk s H scope (compEnvC scope cl C X.env) fp) [] (tUT z S T tg (.c (.bl true))) := fun s H C cl fp => by
    refine ⟨fun pins s' σ' H' Q' I hq => ?_⟩
    obtain ⟨H0, F', G', env', n', er', hq⟩ := hq
    exact pts_nil.run pins s' σ' H' Q' I (hq _ _ _ er'.refl)
  have he' : ∀ (s : Shared) (H : Hp) (C : Addr) (cl : List (Str × Addr)) (fp : List Addr), PE (X.blk s H scope (compEnvC scope cl C X.env) fp) elt (tUD z S T tg e) := fun s H C cl fp =>
    ⟨fun pins s' σ' H' Q' I ⟨H0, F', G', env', n', er', hq⟩ => he H0 s H C cl fp _ _ _ _ _ _ _ er' hq pins s' I⟩
  intro σ H F G env n Q er h
  refine (pe_lc g.calm g.nd (piW tgE itE) ok hg ht' he' hs).w ?_
  rw [how]
  refine hi er ?_
  rw [evD] at h
  cases h1 : evI S T mi env n with
  | ex c n1 => rw [h1] at h; exact h
  | bad => rw [h1] at h; exact h
  | ok xs n1 =>
    rw [h1, Out.bind_ok] at h
    intro J H1 F1 G1 s1 wk hlen
    cases h3 : gather (turnD (fun x => bindT tg x (wipeD env tg)) (evD S T e)) xs n1 with
    | ex c n' => exact absurd h3 (gather_noex _ _ _ _)
    | bad => rw [h3] at h; exact h.elim
    | ok ys n3 =>
      rw [h3, Out.bind_ok] at h
      have er1 := er.step s1
      refine lc_loopD g er1 wk hlen h3 fun D hD H2 F2 G2 N accV st hH2 nw hND hG2 rl => ?_
      have hHD : H D = none := Classical.byContradiction fun q => s1.dom D q hD
      refine h (.ref D) (upd N D (.lst accV)) H2 F2 G2 (s1.trans st) ⟨fun a o q => ?_, fun a xs q m => ?_, fun a q => ?_⟩ (.lst upd_same (rl.mono (Le.grow hND)))
      · by_cases e : a = D
        · subst e; rw [upd_same] at q; cases q; exact hH2
        · rw [upd_ne e] at q; exact nw.le a o q
      · by_cases e : a = D
        · subst e; exact ⟨hHD, hG2⟩
        · rw [upd_ne e] at q
          exact ((nw.back s1).ls a xs q m)
      · by_cases e : a = D
        · subst e; exact .inr (.inl hHD)
        · rw [upd_ne e] at q
          exact (nw.back s1).nn a q
end
end L2.Ms

/-! # Msg: new things are told, copied and changed -/
namespace L2.Ms
open PySem PySem.Spec PyProof.Rows Mv
section
variable {R : Addr → Prop} {H H' H'' : Hp} {c c' : Nat}
theorem Ch.refl : Ch R c H H := ⟨fun _ _ h _ => h, fun a xs _ h => ⟨0, Nat.zero_le _, by simpa using h⟩⟩
theorem Ch.trans (a : Ch R c H H') (b : Ch R c' H' H'') : Ch R (c + c') H H'' := by
  refine ⟨fun x o h q => b.keep x o (a.keep x o h q) q, fun x xs hr h => ?_⟩
  obtain ⟨k, hk, e⟩ := a.grow x xs hr h
  obtain ⟨j, hj, e2⟩ := b.grow x _ hr e
  refine ⟨k + j, by omega, ?_⟩
  rw [e2, List.append_assoc, List.replicate_append_replicate]
theorem Ch.more (a : Ch R c H H') (h : c ≤ c') : Ch R c' H H' := ⟨a.keep, fun x xs hr q => by
  obtain ⟨k, hk, e⟩ := a.grow x xs hr q
  exact ⟨k, by omega, e⟩⟩
theorem Ch.new (a : Ch R c H H') {p : Addr} {o : HO} (hp : H' p = none) : Ch R c H (upd H' p o) := ⟨fun x u h q => by
  have e := a.keep x u h q
  rw [upd_ne (ne_of_none e hp)]; exact e, fun x xs hr q => by
  obtain ⟨k, hk, e⟩ := a.grow x xs hr q
  exact ⟨k, hk, by rw [upd_ne (ne_of_none e hp)]; exact e⟩⟩
theorem gd_scal {k : Nat} {v : V} (h : scal v = true) : Gd R H k c v := by
  cases k with
  | zero => exact h
  | succ k => exact .inl h
theorem gdL_app {P : Nat → V → Prop} {w : V} (hw : P 0 w) : ∀ {vs : List V} {c : Nat} (k : Nat), GdL P c vs → GdL P c (vs ++ List.replicate k w)
  | [], c, 0, h => trivial
  | [], c, k + 1, h => ⟨0, c, by omega, hw, by simpa using gdL_app hw (vs := []) (c := c) k trivial⟩
  | v :: vs, c, k, ⟨c1, c2, h1, h2, h3⟩ => ⟨c1, c2, h1, h2, gdL_app hw k h3⟩
theorem gdL_mono {P Q : Nat → V → Prop} (h : ∀ c v, P c v → Q c v) : ∀ {vs : List V} {c : Nat}, GdL P c vs → GdL Q c vs
  | [], _, _ => trivial
  | _ :: _, _, ⟨c1, c2, h1, h2, h3⟩ => ⟨c1, c2, h1, h _ _ h2, gdL_mono h h3⟩
theorem Gd.ch (q : Ch R c' H H') : ∀ {k c : Nat} {v : V}, Gd R H k c v → Gd R H' k c v
  | 0, _, _, h => h
  | k + 1, c, v, h => by
    rcases h with h | ⟨a, vs, c1, rfl, h2, h3⟩
    · exact .inl h
    · have h4 : GdL (Gd R H' k) c1 vs := gdL_mono (fun _ _ w => Gd.ch q w) h3
      rcases h2 with ⟨h1, h2⟩ | ⟨h1, hr, h2⟩
      · exact .inr ⟨a, vs, c1, rfl, .inl ⟨h1, q.keep a _ h2 fun _ xs w => by cases w⟩, h4⟩
      · obtain ⟨j, _, e⟩ := q.grow a vs hr h2
        exact .inr ⟨a, _, c1, rfl, .inr ⟨h1, hr, e⟩, gdL_app (gd_scal rfl) j h4⟩
end
/-- the lists of a part -/
def LsOf (N : Hp) : Addr → Prop := fun a => ∃ xs, N a = some (.lst xs)
mutual
theorem Rep.gd {c : Cn} {N H : Hp} (l : Le N H) : ∀ {k : Nat} {v : V} {d : D}, Rep c N v d → shp k d = true → Gd (LsOf N) H k (wD d) v
  | _, _, _, .non, _ => gd_scal rfl
  | _, _, _, .bl b, _ => gd_scal rfl
  | _, _, _, .int b, _ => gd_scal rfl
  | _, _, _, .str b, _ => gd_scal rfl
  | k + 1, _, _, .lst (ds := ds) e r, h => .inr ⟨_, _, wAll ds, rfl, .inr ⟨by simp only [wD]; omega, ⟨_, e⟩, l _ _ e⟩, RepL.gd l r (by simpa [shp] using h)⟩
  | k + 1, _, _, .tup (ds := ds) e r, h => .inr ⟨_, _, wAll ds, rfl, .inl ⟨by simp only [wD]; exact Nat.le_refl _, l _ _ e⟩, RepL.gd l r (by simpa [shp] using h)⟩
  | 0, _, _, .lst e r, h => by simp [shp] at h
  | 0, _, _, .tup e r, h => by simp [shp] at h
  | _, _, _, .exc _, h => by simp [shp] at h
  | _, _, _, .scr _, h => by simp [shp] at h
  | _, _, _, .town _, h => by simp [shp] at h
  | _, _, _, .dic _ _, h => by simp [shp] at h
  | _, _, _, .dit _ _, h => by simp [shp] at h
  | _, _, _, .fdk _ _, h => by simp [shp] at h
  | _, _, _, .fdt _ _, h => by simp [shp] at h
theorem RepL.gd {c : Cn} {N H : Hp} (l : Le N H) : ∀ {k : Nat} {vs : List V} {ds : List D}, RepL c N vs ds → shpAll k ds = true → GdL (Gd (LsOf N) H k) (wAll ds) vs
  | _, _, _, .nil, _ => trivial
  | _, _, _, .cons a t, h => by
    simp only [shpAll, Bool.and_eq_true] at h
    exact ⟨_, _, by simp only [wAll]; exact Nat.le_refl _, Rep.gd l a h.1, RepL.gd l t h.2⟩
end
/-- the same with a smaller part: the lists that are met -/
inductive InD (N : Hp) : V → Addr → Prop
  | here {a : Addr} : InD N (.ref a) a
  | lst {a b : Addr} {vs : List V} {u : V} : N a = some (.lst vs) → u ∈ vs → InD N u b → InD N (.ref a) b
  | tup {a b : Addr} {vs : List V} {u : V} : N a = some (.tup vs) → u ∈ vs → InD N u b → InD N (.ref a) b
open Classical in
/-- what is met of v -/
noncomputable def met (N : Hp) (v : V) : Hp := fun a => if InD N v a then N a else none
theorem met_le {N : Hp} {v : V} : Le (met N v) N := fun a o h => by
  unfold met at h
  split at h
  · exact h
  · cases h
theorem met_in {N : Hp} {v : V} {a : Addr} (h : InD N v a) : met N v a = N a := by unfold met; rw [if_pos h]
mutual
theorem Rep.met {c : Cn} {N : Hp} {w : V} : ∀ {k : Nat} {v : V} {d : D}, Rep c N v d → shp k d = true → (∀ a, InD N v a → InD N w a) → Rep c (met N w) v d
  | _, _, _, .non, _, _ => .non
  | _, _, _, .bl b, _, _ => .bl b
  | _, _, _, .int b, _, _ => .int b
  | _, _, _, .str b, _, _ => .str b
  | k + 1, _, _, .lst e r, h, i => .lst (by rw [met_in (i _ .here)]; exact e) (RepL.met r (by simpa [shp] using h) fun u hu b hb => i b (.lst e hu hb))
  | k + 1, _, _, .tup e r, h, i => .tup (by rw [met_in (i _ .here)]; exact e) (RepL.met r (by simpa [shp] using h) fun u hu b hb => i b (.tup e hu hb))
  | 0, _, _, .lst e r, h, _ => by simp [shp] at h
  | 0, _, _, .tup e r, h, _ => by simp [shp] at h
  | _, _, _, .exc _, h, _ => by simp [shp] at h
  | _, _, _, .scr _, h, _ => by simp [shp] at h
  | _, _, _, .town _, h, _ => by simp [shp] at h
  | _, _, _, .dic _ _, h, _ => by simp [shp] at h
  | _, _, _, .dit _ _, h, _ => by simp [shp] at h
  | _, _, _, .fdk _ _, h, _ => by simp [shp] at h
  | _, _, _, .fdt _ _, h, _ => by simp [shp] at h
theorem RepL.met {c : Cn} {N : Hp} {w : V} : ∀ {k : Nat} {vs : List V} {ds : List D}, RepL c N vs ds → shpAll k ds = true → (∀ u ∈ vs, ∀ a, InD N u a → InD N w a) → RepL c (met N w) vs ds
  | _, _, _, .nil, _, _ => .nil
  | _, _, _, .cons a t, h, i => by
    simp only [shpAll, Bool.and_eq_true] at h
    exact .cons (Rep.met a h.1 (i _ List.mem_cons_self)) (RepL.met t h.2 fun u hu => i u (List.mem_cons_of_mem _ hu))
end
mutual
/-- what is met is no longer than all -/
theorem Rep.short {c : Cn} {N : Hp} : ∀ {k : Nat} {v : V} {d : D}, Rep c N v d → shp k d = true → ∀ b xs, InD N v b → N b = some (.lst xs) → xs.length ≤ wD d
  | _, _, _, .non, _, _, _, i, _ => nomatch i
  | _, _, _, .bl b, _, _, _, i, _ => nomatch i
  | _, _, _, .int b, _, _, _, i, _ => nomatch i
  | _, _, _, .str b, _, _, _, i, _ => nomatch i
  | k + 1, _, _, .lst (ds := ds) e r, h, b, xs, i, eb => by
    simp only [wD]
    cases i with
    | here =>
      rw [e] at eb; cases eb
      rw [r.length]
      omega
    | lst e2 hu hb =>
      rw [e] at e2; cases e2
      have := RepL.short r (by simpa [shp] using h) _ hu b xs hb eb
      omega
    | tup e2 hu hb => rw [e] at e2; cases e2
  | k + 1, _, _, .tup (ds := ds) e r, h, b, xs, i, eb => by
    simp only [wD]
    cases i with
    | here => rw [e] at eb; cases eb
    | lst e2 hu hb => rw [e] at e2; cases e2
    | tup e2 hu hb =>
      rw [e] at e2; cases e2
      have := RepL.short r (by simpa [shp] using h) _ hu b xs hb eb
      omega
  | 0, _, _, .lst e r, h, _, _, _, _ => by simp [shp] at h
  | 0, _, _, .tup e r, h, _, _, _, _ => by simp [shp] at h
  | _, _, _, .exc _, h, _, _, _, _ => by simp [shp] at h
  | _, _, _, .scr _, h, _, _, _, _ => by simp [shp] at h
  | _, _, _, .town _, h, _, _, _, _ => by simp [shp] at h
  | _, _, _, .dic _ _, h, _, _, _, _ => by simp [shp] at h
  | _, _, _, .dit _ _, h, _, _, _, _ => by simp [shp] at h
  | _, _, _, .fdk _ _, h, _, _, _, _ => by simp [shp] at h
  | _, _, _, .fdt _ _, h, _, _, _, _ => by simp [shp] at h
theorem RepL.short {c : Cn} {N : Hp} : ∀ {k : Nat} {vs : List V} {ds : List D}, RepL c N vs ds → shpAll k ds = true → ∀ u ∈ vs, ∀ b xs, InD N u b → N b = some (.lst xs) → xs.length ≤ wAll ds
  | _, _, _, .nil, _, _, hu, _, _, _, _ => by cases hu
  | _, _, _, .cons a t, h, u, hu, b, xs, i, eb => by
    simp only [shpAll, Bool.and_eq_true] at h
    simp only [wAll]
    rcases List.mem_cons.mp hu with rfl | hu
    · have := Rep.short a h.1 b xs i eb
      omega
    · have := RepL.short t h.2 u hu b xs i eb
      omega
end
/-- what a change of v's lists asks -/
theorem Rep.spoil {c : Cn} {N H : Hp} {v : V} {d : D} (r : Rep c N v d) (l : Le N H) (h : shp deep d = true) (hz : wD d ≤ 1000000) {Q : VK} {E : XK} (q : ∀ H', Ch (LsOf N) (wD d) H H' → Q .non H') : spSp deep [v] H Q E := by
  refine ⟨v, LsOf (Ms.met N v), wD d, wD d, rfl, (r.met h fun _ w => w).gd (met_le.trans l) h, fun a ⟨ys, w⟩ => by rw [l _ _ (met_le _ _ w)]; simp, fun a xs ⟨ys, w⟩ e => ?_, by rw [← line_eq]; have : line = 16777216 := rfl; omega, fun H' ch => q H' ⟨fun a o e w => ch.keep a o e fun ⟨ys, w'⟩ => w ⟨ys, met_le _ _ w'⟩, fun a xs hr e => ?_⟩⟩
  · have w2 := met_le _ _ w
    rw [l _ _ w2] at e
    cases e
    refine r.short h a _ ?_ w2
    refine Classical.byContradiction fun hn => ?_
    unfold Ms.met at w
    rw [if_neg hn] at w
    cases w
  · by_cases hm : LsOf (Ms.met N v) a
    · exact ch.grow a xs hm e
    · exact ⟨0, Nat.zero_le _, by simpa using ch.keep a _ e fun w => absurd w hm⟩
/-! ### the def that changes all lists -/
def isiE (e : Expr) (x c : Str) : Bool := match e with
  | .Call (.Name f _) [.Name y _, .Name d _] [] _ => f == ("isinstance" : Str) && y == x && d == c
  | _ => false
def spB : List Stmt → Bool
  | [.If (.BoolOp .Or [t1, t2] _) [.For (.Name o1 _) (.Call (.Name ls _) [.Name t3 _] [] _) [.Expr (.Call (.Name sp _) [.Name o2 _] [] _) _] [] _] [] _,
     .If t4 [.Expr (.Call (.Attribute (.Name t5 _) ap apos) [.Constant (.str late) _ _] [] cpos) _] [] _,
     .If t6 _ [] _] => isiE t1 "thing" "list" && isiE t2 "thing" "tuple" && o1 == ("one" : Str) && ls == ("list" : Str) && t3 == ("thing" : Str) && sp == ("_law_spoil" : Str) && o2 == ("one" : Str) &&
       isiE t4 "thing" "list" && t5 == ("thing" : Str) && ap == ("append" : Str) && late == ("late" : Str) && (apos.endLine == cpos.line) && isiE t6 "thing" "dict"
  | _ => false
theorem isiE_ok {e : Expr} {x c : Str} (h : isiE e x c = true) : ∃ p1 p2 p3 p4, e = .Call (.Name "isinstance" p1) [.Name x p2, .Name c p3] [] p4 := by
  unfold isiE at h
  split at h
  · simp only [Bool.and_eq_true, beq_iff_eq] at h
    obtain ⟨⟨rfl, rfl⟩, rfl⟩ := h
    exact ⟨_, _, _, _, rfl⟩
  · cases h
section
variable {X : Cx} {z : Fx} {W : WX} {S : Sub} {T : Tab} {σ : St} {H F G H1 F1 G1 : Hp} {env : Ev} {n n1 : Nat} {D : Ends}
/-- isinstance(x, C) as a test -/
theorem wT_isi {x c : Str} {i : Nat} {v : V} {t cn : String} {b : Bool} {p1 p2 p3 p4 : Pos} {Q : Bool → Hp → Prop} (hi : X.N[i]? = some x) (hv : Vis X.env.scope x) (hd : (x == ("__debug__" : Str)) = false) (hd2 : (x == ("__classdict__" : Str)) = false) (hg : Gl X "isinstance") (hm : X.mg "isinstance" = none)
    (hc : PE X (.Name c p3) (tC (.ty cn))) (hσ : σ[i]? = some (some v)) (ty : TyOf X.K H v (.type t)) (hk : kitB t cn = some b) (q : Q b H) : wT X (.Call (.Name "isinstance" p1) [.Name x p2, .Name c p3] [] p4) σ H Q := by
  refine wT_val (fun _ => rfl) ?_
  refine (pe_callB (id := "isinstance") wCR hg hm (by decide +kernel) (pa_cons (pe_var hi hv hd hd2) (pa_cons hc pa_nil)) (by decide) (by decide)).w ?_
  exact ⟨v, hσ, call_isi.w ⟨_, _, _, _, b, rfl, clsV_ty cn, .base ty, kit_ty hk, b, rfl, q⟩⟩
/-- a walk of a list that an expression tells -/
theorem wI_list {tg e : Expr} {R : It → Hp → Prop} (h : wE X e σ H fun x H1 => ∃ a vs, x = .ref a ∧ SqL X.K H1 a vs ∧ R (Itl X.K a) H1) : wI X tg e σ H R := fun pins s I =>
  thn (h pins s I) fun v s1 hh => by
    obtain ⟨x, H1, I1, rx, a, vs, rfl, hq, q⟩ := hh
    cases rx
    exact pie_list I1 hq q
end
/-- what stands in the module for it -/
structure SpOk (X : Cx) : Prop where
  i0 : X.N[0]? = some ("thing" : Str)
  i1 : X.N[1]? = some ("one" : Str)
  l0 : Loc X.env.scope "thing"
  l1 : Loc X.env.scope "one"
  gi : Gl X "isinstance" ∧ X.mg "isinstance" = none
  gl : Gl X "list" ∧ X.mg "list" = none
  gt : Gl X "tuple" ∧ X.mg "tuple" = none
  gd : Gl X "dict" ∧ X.mg "dict" = none
  gs : Gl X "_law_spoil"
section
variable {X : Cx} {σ : St} {H : Hp} {D : Ends} {R : Addr → Prop} {k c M : Nat}
theorem sp_len (hR : ∀ a, R a → H a ≠ none) (hM : ∀ a xs, R a → H a = some (.lst xs) → xs.length ≤ M) {H2 : Hp} {cd : Nat} (ch : Ch R cd H H2) : ∀ a xs, R a → H2 a = some (.lst xs) → xs.length ≤ M + cd := fun a xs hr e => by
  cases h0 : H a with
  | none => exact absurd h0 (hR a hr)
  | some o =>
    cases o with
    | lst ys =>
      obtain ⟨j, hj, e2⟩ := ch.grow a ys hr h0
      rw [e2] at e
      cases e
      have := hM a ys hr h0
      simp
      omega
    | _ =>
      have := ch.keep a _ h0 fun _ xs q => by cases q
      rw [this] at e
      cases e
theorem Ch.dom {H2 : Hp} {cd : Nat} (ch : Ch R cd H H2) {a : Addr} (h : H a ≠ none) : H2 a ≠ none := by
  cases h0 : H a with
  | none => exact absurd h0 h
  | some o =>
    by_cases q : R a ∧ ∃ xs, o = .lst xs
    · obtain ⟨hr, xs, rfl⟩ := q
      obtain ⟨j, _, e⟩ := ch.grow a xs hr h0
      rw [e]; simp
    · rw [ch.keep a o h0 fun hr xs e => q ⟨hr, xs, e⟩]; simp
theorem sp_loop (po : PassesOwn (model X.prog X.w) X.A X.env X.xe) (calm : X.calm = true) (nd : X.N.Nodup) (so : SpOk X) (hfn : X.fn "one" = true) {a : Addr} {vs : List V} {p1 p2 p3 p4 p5 p6 p7 p8 p9 : Pos}
    (hrec : ∀ {p q pos : Pos} {σ : St} {H : Hp} {Q : VK} {u : V}, σ[1]? = some (some u) → (∀ E, spSp k [u] H Q E) → wE X (.Call (.Name "_law_spoil" p) [.Name "one" q] [] pos) σ H Q)
    (h0 : σ[0]? = some (some (.ref a))) (hlen : 1 < σ.length) (hsq : SqL X.K H a vs ∨ SqT X.K H a vs) (gd : GdL (Gd R H k) c vs) (hR : ∀ a, R a → H a ≠ none) (hM : ∀ a xs, R a → H a = some (.lst xs) → xs.length ≤ M) (hc : M + c < sizeLine)
    (q : ∀ σ' H', σ'[0]? = some (some (.ref a)) → 1 < σ'.length → Ch R c H H' → D.nx σ' H') :
    wS X (.For (.Name "one" p1) (.Call (.Name "list" p2) [.Name "thing" p3] [] p4) [.Expr (.Call (.Name "_law_spoil" p5) [.Name "one" p6] [] p7) p8] [] p9) D σ H := by
  refine (ps_for po calm (piW _ _) (pg_name nd so.i1 so.l1 (.inl hfn)) (pssW _)).w (wI_list ((pe_callTy (T := "list") wCR so.gl.1 so.gl.2 (by decide +kernel) (pa_cons (pe_var so.i0 (by rcases so.l0 with w | w; exact .inl w; exact .inr (.inl w)) (by decide) (by decide)) pa_nil) (by decide) (by decide)).w ⟨_, h0, call_list_of.w ⟨a, vs, rfl, hsq, fun p hp => ⟨p, vs, rfl, SqL.of upd_same, ?_⟩⟩⟩))
  have hpR : ¬ R p := fun w => hR p w hp
  let Wp : Nat → Nat → St → Hp → Prop := fun i m σ2 H2 => m = vs.length - i ∧ i ≤ vs.length ∧ σ2[0]? = some (some (.ref a)) ∧ 1 < σ2.length ∧ H2 p = some (.lst vs) ∧ ∃ cd cl, cd + cl ≤ c ∧ Ch R cd H H2 ∧ GdL (Gd R H2 k) cl (vs.drop i)
  have ch0 : Ch R 0 H (upd H p (.lst vs)) := Ch.refl.new hp
  refine ⟨Wp, ⟨vs.length, by simp, Nat.zero_le _, h0, hlen, upd_same, 0, c, by omega, ch0, gdL_mono (fun _ _ w => Gd.ch ch0 w) gd⟩, ?_⟩
  rintro i m σ2 H2 ⟨rfl, hi, s0, sl, hp2, cd, cl, hcc, ch, gd2⟩
  by_cases hlt : i < vs.length
  · have hdrop : vs.drop i = vs[i] :: vs.drop (i + 1) := List.drop_eq_getElem_cons hlt
    rw [hdrop] at gd2
    obtain ⟨c1, c2, h12, g1, g2⟩ := gd2
    refine .inr ⟨⟨vs, vs[i], SqL.of hp2, by simp [hlt]⟩, fun σ' H' => Wp (i + 1) (vs.length - (i + 1)) σ' H', fun σ' H' w => ⟨_, by omega, w⟩, fun x H' y => ?_⟩
    obtain ⟨rfl, y⟩ := y
    have ex := y vs (SqL.of hp2)
    rw [List.getElem?_eq_getElem hlt] at ex
    cases ex
    refine (pss_cons (ps_expr (peW _) (swapsNone rfl none)) pss_nil).w ?_
    refine hrec (u := vs[i]) (by rw [List.getElem?_set_self sl]) fun E => ⟨vs[i], R, c1, M + cd, rfl, g1, fun a w => ch.dom (hR a w), sp_len hR hM ch, by omega, fun H3 ch3 => ?_⟩
    refine ⟨rfl, hlt, ?_, by simpa using sl, ch3.keep p _ hp2 fun w => absurd w hpR, cd + c1, c2, by omega, ch.trans ch3, gdL_mono (fun _ _ w => Gd.ch ch3 w) g2⟩
    rw [List.getElem?_set_ne (by decide)]
    exact s0
  · refine .inl ⟨⟨vs, SqL.of hp2, by omega⟩, q σ2 H2 s0 sl (ch.more (by omega))⟩
theorem sp_body (po : PassesOwn (model X.prog X.w) X.A X.env X.xe) (calm : X.calm = true) (nd : X.N.Nodup) (so : SpOk X) (hfn : X.fn "one" = true) {body : List Stmt} (hb : spB body = true) {v : V}
    (hrec : ∀ k', k = k' + 1 → ∀ {p q pos : Pos} {σ : St} {H : Hp} {Q : VK} {u : V}, σ[1]? = some (some u) → (∀ E, spSp k' [u] H Q E) → wE X (.Call (.Name "_law_spoil" p) [.Name "one" q] [] pos) σ H Q)
    (h0 : σ[0]? = some (some v)) (hlen : 1 < σ.length) (gd : Gd R H k c v) (hR : ∀ a, R a → H a ≠ none) (hM : ∀ a xs, R a → H a = some (.lst xs) → xs.length ≤ M) (hc : M + c < sizeLine)
    (q : ∀ σ' H', Ch R c H H' → D.nx σ' H') : wSs X body D σ H := by
  unfold spB at hb
  split at hb
  rotate_left
  · cases hb
  simp only [Bool.and_eq_true, beq_iff_eq] at hb
  obtain ⟨⟨⟨⟨⟨⟨⟨⟨⟨⟨⟨⟨b1, b2⟩, rfl⟩, rfl⟩, rfl⟩, rfl⟩, rfl⟩, b3⟩, rfl⟩, rfl⟩, rfl⟩, b4⟩, b5⟩ := hb
  obtain ⟨_, _, _, _, rfl⟩ := isiE_ok b1
  obtain ⟨_, _, _, _, rfl⟩ := isiE_ok b2
  obtain ⟨_, _, _, _, rfl⟩ := isiE_ok b3
  obtain ⟨_, _, _, _, rfl⟩ := isiE_ok b5
  have vis : Vis X.env.scope "thing" := by rcases so.l0 with w | w; exact .inl w; exact .inr (.inl w)
  have tyL : ∀ p : Pos, PE X (.Name "list" p) (tC (.ty "list")) := fun p => pe_bltn so.gl.1 so.gl.2 (by decide +kernel) rfl (by decide) (by decide)
  have tyT : ∀ p : Pos, PE X (.Name "tuple" p) (tC (.ty "tuple")) := fun p => pe_bltn so.gt.1 so.gt.2 (by decide +kernel) rfl (by decide) (by decide)
  have tyD : ∀ p : Pos, PE X (.Name "dict" p) (tC (.ty "dict")) := fun p => pe_bltn so.gd.1 so.gd.2 (by decide +kernel) rfl (by decide) (by decide)
  refine (pss_cons (ps_if (PW.pt (pw_or (ptW _) (pw_or1 (ptW _)))) (pss_cons (psW _) pss_nil) pss_nil) (pss_cons (ps_if (ptW _) (pss_cons (psW _) pss_nil) pss_nil) (pss_cons (ps_if (ptW _) (pssW _) pss_nil) pss_nil))).w ?_
  have cs : scal v = true ∨ ∃ k', k = k' + 1 ∧ ∃ a vs c', v = .ref a ∧ ((c' ≤ c ∧ H a = some (.tup vs)) ∨ (c' + 1 ≤ c ∧ R a ∧ H a = some (.lst vs))) ∧ GdL (Gd R H k') c' vs := by
    cases k with
    | zero => exact .inl gd
    | succ k =>
      rcases gd with gd | gd
      · exact .inl gd
      · exact .inr ⟨k, rfl, gd⟩
  rcases cs with hs | ⟨k', rfl, a, vs, c', rfl, hsq, gl⟩
  · have ft : ∃ t, TyOf X.K H v (.type t) ∧ kitB t "list" = some false ∧ kitB t "tuple" = some false ∧ kitB t "dict" = some false := by
      cases v with
      | non => exact ⟨_, .non, by decide +kernel, by decide +kernel, by decide +kernel⟩
      | bl b => exact ⟨_, .bl b, by decide +kernel, by decide +kernel, by decide +kernel⟩
      | int b => exact ⟨_, .int b, by decide +kernel, by decide +kernel, by decide +kernel⟩
      | str b => exact ⟨_, .str b, by decide +kernel, by decide +kernel, by decide +kernel⟩
      | _ => simp [scal] at hs
    obtain ⟨t, ty, k1, k2, k3⟩ := ft
    refine wT_isi so.i0 vis (by decide) (by decide) so.gi.1 so.gi.2 (tyL _) h0 ty k1 ?_
    refine wT_isi so.i0 vis (by decide) (by decide) so.gi.1 so.gi.2 (tyT _) h0 ty k2 ?_
    refine wT_isi so.i0 vis (by decide) (by decide) so.gi.1 so.gi.2 (tyL _) h0 ty k1 ?_
    refine wT_isi so.i0 vis (by decide) (by decide) so.gi.1 so.gi.2 (tyD _) h0 ty k3 ?_
    exact q σ H Ch.refl
  · have hrec := fun {p q pos : Pos} {σ : St} {H : Hp} {Q : VK} {u : V} => hrec k' rfl (p := p) (q := q) (pos := pos) (σ := σ) (H := H) (Q := Q) (u := u)
    rcases hsq with ⟨hcc, e⟩ | ⟨hcc, hr, e⟩
    · have ty : TyOf X.K H (.ref a) (.type "tuple") := .tup e
      refine wT_isi so.i0 vis (by decide) (by decide) so.gi.1 so.gi.2 (tyL _) h0 ty (b := false) (by decide +kernel) (wT_isi so.i0 vis (by decide) (by decide) so.gi.1 so.gi.2 (tyT _) h0 ty (b := true) (by decide +kernel) ?_)
      refine sp_loop po calm nd so hfn (hrec) h0 hlen (.inr (SqT.of e)) gl hR hM (by omega) fun σ' H' s0 sl ch => ?_
      have ty2 : TyOf X.K H' (.ref a) (.type "tuple") := .tup (ch.keep a _ e fun _ xs w => by cases w)
      exact wT_isi so.i0 vis (by decide) (by decide) so.gi.1 so.gi.2 (tyL _) s0 ty2 (b := false) (by decide +kernel) (wT_isi so.i0 vis (by decide) (by decide) so.gi.1 so.gi.2 (tyD _) s0 ty2 (b := false) (by decide +kernel) (q σ' H' (ch.more (by omega))))
    · have ty : TyOf X.K H (.ref a) (.type "list") := .lst e
      refine wT_isi so.i0 vis (by decide) (by decide) so.gi.1 so.gi.2 (tyL _) h0 ty (b := true) (by decide +kernel) ?_
      refine sp_loop po calm nd so hfn (hrec) h0 hlen (.inl (SqL.of e)) gl hR hM (by omega) fun σ' H' s0 sl ch => ?_
      obtain ⟨j, hj, e2⟩ := ch.grow a vs hr e
      have ty2 : TyOf X.K H' (.ref a) (.type "list") := .lst e2
      refine wT_isi so.i0 vis (by decide) (by decide) so.gi.1 so.gi.2 (tyL _) s0 ty2 (b := true) (by decide +kernel) ?_
      refine (ps_expr (pe_bm PySem.F.plainAttrs_list PySem.F.slot_list_append PySem.F.type_list_append mt_append (pe_var so.i0 vis (by decide) (by decide)) (pa_cons pe_str pa_nil) rfl rfl (beq_iff_eq.mpr b4) rfl rfl)).w ?_
      have hl2 := sp_len hR hM ch a _ hr e2
      refine ⟨_, s0, .inl ⟨rfl, _, SqL.of e2⟩, a, _, _, rfl, rfl, e2, by omega, ?_⟩
      have ty3 : TyOf X.K (upd H' a (.lst (vs ++ List.replicate j (.str "late") ++ [.str "late"]))) (.ref a) (.type "list") := .lst upd_same
      refine wT_isi so.i0 vis (by decide) (by decide) so.gi.1 so.gi.2 (tyD _) s0 ty3 (b := false) (by decide +kernel) (q σ' _ ⟨fun b o w hw => ?_, fun b xs hb w => ?_⟩)
      · have ne : b ≠ a := fun eq => by
          subst eq
          rw [e] at w; cases w
          exact hw hr _ rfl
        rw [upd_ne ne]
        exact ch.keep b o w hw
      · by_cases eq : b = a
        · subst eq
          rw [e] at w; cases w
          refine ⟨j + 1, by omega, ?_⟩
          rw [upd_same, List.append_assoc, ← List.replicate_succ']
        · obtain ⟨i, hi, e3⟩ := ch.grow b xs hb w
          exact ⟨i, by omega, by rw [upd_ne eq]; exact e3⟩
end
end L2.Ms

/-! # Msh: new things are told on; a thing told is copied, and changed -/
namespace L2.Ms
open PySem PySem.Spec PyProof.Rows Mv
section
variable {X : Cx} {z : Fx} {W : WX} {S : Sub} {T : Tab} {σ : St} {H F G H1 F1 G1 H2 F2 G2 N : Hp} {env : Ev} {n n1 n2 : Nat} {D : Ends}
theorem NewN.ret (er : ER z σ H F G env n) (en : EN z F G) (s : Step z H F G H1 F1 G1 n1) (nw : NewN H G1 H1 N) : RT z H1 (un G1 N) n1 ∧ Le N (un G1 N) ∧ (∀ a o, N a = some o → Mut (some o) → z.H0 a = none) := by
  have er1 := er.step s
  have en1 := en.step er s
  refine ⟨⟨en1.f0.trans (er1.fg.trans un_left), un_le er1.gh nw.le, fun a h => ?_, er1.h0, fun a q => ⟨(er1.tw a q).1, Classical.byContradiction fun h => ?_⟩⟩, un_right er1.gh nw.le, fun a xs q m => er.free0 (nw.ls a xs q m).1⟩
  · rcases un_none h with h | h
    · exact en1.nw a h
    · rcases nw.nn a h with h | h
      · exact en1.nw a h
      · exact .inr (er.fr0 h)
  · rcases un_none h with h | h
    · exact h (er1.tw a q).2.1
    · rcases nw.nn a h with h | h
      · exact h (er1.tw a q).2.1
      · exact h.mut (er.tw a q).1 trivial
theorem ss_retD {e : MD} {ex : Expr} {pos : Pos} (he : SD X z W S T e ex) : SS X z W S T (.retD e) (.Return (some ex) pos) := fun σ H F G env n D er en h => by
  refine (ps_ret (peW ex)).w (he σ H F G env n _ er ?_)
  simp only [evS] at h
  cases h1 : evD S T e env n with
  | ok d n1 =>
    rw [h1] at h
    intro v N H1 F1 G1 s nw r
    obtain ⟨rt, le, ls⟩ := nw.ret er en s
    exact h v H1 (un G1 N) rt (r.mono le) fun _ => ⟨N, le, ls, r⟩
  | ex c n1 => rw [h1] at h; exact fun H1 F1 G1 st => h σ H1 F1 G1 (er.step st) (en.step er st)
  | bad => rw [h1] at h; exact h
/-- return x, of a list of one's own -/
theorem ss_retO {i : Nat} {x : Str} {p pos : Pos} (hi : X.N[i]? = some x) (hv : Vis X.env.scope x) (hd : (x == ("__debug__" : Str)) = false) (hd2 : (x == ("__classdict__" : Str)) = false) (ho : z.own i = 1) :
    SS X z W S T (.retO i) (.Return (some (.Name x p)) pos) := fun σ H F G env n D er en h => by
  simp only [evS] at h
  obtain ⟨xs, hx, h⟩ := ofO_some h
  split at h
  · rename_i hn
    obtain ⟨p, vs, e1, e2, e3, r⟩ := er.own1 ho hx
    refine (ps_ret (pe_var hi hv hd hd2)).w ⟨_, e1, ?_⟩
    have tp : tupO F p = none := tupO_le.non e3
    refine h (.ref p) H G (er.rt en) (.lst e2 (r.mono er.fg)) fun _ => ⟨upd (tupO F) p (.lst vs), fun a o q => ?_, fun a ys q m => ?_, .lst upd_same ((r.tupO hn).mono (Le.grow tp))⟩
    · by_cases e : a = p
      · subst e; rw [upd_same] at q; cases q; exact e2
      · rw [upd_ne e] at q; exact er.fg _ _ (tupO_le _ _ q)
    · by_cases e : a = p
      · subst e; exact en.own0 er e2 trivial e3
      · rw [upd_ne e] at q; exact absurd m (tupO_mut q)
  · exact h.elim
/-- a slot that holds nothing may be filled -/
theorem ER.over {i : Nat} {x : Option V} (er : ER z σ H F G env n) : ER z (σ.set i x) H F G (env.set i none) n := by
  have k := er.kill (i := i)
  have ne : ∀ (j : Nat) d, (env.set i none)[j]? = some (some d) → i ≠ j := fun j d h q => by
    subst q
    by_cases hlt : i < env.length
    · rw [List.getElem?_set_self hlt] at h; cases h
    · rw [List.getElem?_eq_none (by simpa using hlt)] at h; cases h
  refine ⟨k.fg, k.gh, k.h0, k.tw, fun j e he hj => ?_, fun j e he hj => ?_, fun j e he hj => ?_, fun j l d e p p' a hne hj hl h1 h2 h3 h4 => ?_, by simp [er.len]⟩
  · rw [List.getElem?_set_ne (ne j e he)]; exact k.val j e he hj
  · rw [List.getElem?_set_ne (ne j e he)]; exact k.ow j e he hj
  · rw [List.getElem?_set_ne (ne j e he)]; exact k.ow2 j e he hj
  · rw [List.getElem?_set_ne (ne j d h1)] at h3
    rw [List.getElem?_set_ne (ne l e h2)] at h4
    exact k.dis j l d e p p' a hne hj hl h1 h2 h3 h4
/-- what a call has told, of new lists -/
theorem ER.more {Fc N2 : Hp} (er : ER z σ H F G env n) (st : StepC z.pt H Fc H2 F2 n2) (le : Le N2 F2) (ls : ∀ a o, N2 a = some o → Mut (some o) → H a = none) : ER z σ H2 (un F N2) (un G N2) env n2 := by
  have gH : Le G H2 := fun a o e => st.keep a o (er.gh a o e) fun q => by
    rw [(er.tw a q).2.1] at e
    cases e
  have nH : Le N2 H2 := le.trans st.fh
  have np : ∀ p o, G p = some o → Mut (some o) → N2 p = none := fun p vs e m => by
    cases h : N2 p with
    | none => rfl
    | some o =>
      have e1 := nH _ _ h
      rw [gH _ _ e] at e1
      cases e1
      have := ls p _ h m
      rw [er.gh _ _ e] at this
      cases this
  have ufm : ∀ p o, G p = some o → Mut (some o) → F p = none → un F N2 p = none := fun p vs e m f => by unfold un; rw [f]; exact np p vs e m
  have uf : ∀ p vs, G p = some (.lst vs) → F p = none → un F N2 p = none := fun p vs e f => ufm p _ e trivial f
  refine ⟨un_le (er.fg.trans un_left) (un_right gH nH), un_le gH nH, fun a o h q => st.keep a o (er.h0 a o h q) q, fun a q => ⟨(st.tw a q).1, ?_, (er.tw a q).2.2⟩, fun i d h hi => ?_, fun i d h hi => ?_, fun i d h hi => ?_, fun i j d e p q a hne hi hj h1 h2 h3 h4 w1 w2 => ?_, er.len⟩
  · unfold un; rw [(er.tw a q).2.1]; exact le.non (st.tw a q).2
  · obtain ⟨v, h1, r⟩ := er.val i d h hi
    exact ⟨v, h1, r.mono un_left⟩
  · obtain ⟨p, e1, e3, w⟩ := er.ow i d h hi
    obtain ⟨o, e2, m⟩ := w.cell
    exact ⟨p, e1, ufm p o e2 m e3, w.mono un_left fun _ q => un_left _ _ q⟩
  · obtain ⟨p, vs, ds, e0, e1, e2, e3, r, m⟩ := er.ow2 i d h hi
    exact ⟨p, vs, ds, e0, e1, un_left _ _ e2, uf p vs e2 e3, r.mono un_left fun q us _ c f => ⟨un_left _ _ c, uf q us c f⟩, m⟩
  · obtain ⟨vs, g1, _⟩ := er.cell h1 hi h3
    obtain ⟨us, g2, _⟩ := er.cell h2 hj h4
    exact er.dis i j d e p q a hne hi hj h1 h2 h3 h4 (w1.same g1 (un_left _ _ g1)) (w2.same g2 (un_left _ _ g2))
theorem EN.more {Fc N2 : Hp} (er : ER z σ H F G env n) (en : EN z F G) (st : StepC z.pt H Fc H2 F2 n2) (le : Le N2 F2) (hc : ∀ a, Fc a ≠ none → z.F0 a ≠ none ∨ Fr z.H0 a) : EN z (un F N2) (un G N2) :=
  ⟨en.f0.trans un_left, fun a h => (un_none h).elim (en.nw a) fun q => (st.nf a (le.has q)).elim (hc a) fun w => .inr (er.fr0 w)⟩
theorem ER.chg {H3 : Hp} (er : ER z σ H F G env n) (gh : Le G H3) (h0 : ∀ a o, z.H0 a = some o → z.pt ≠ some a → H3 a = some o) (tw : ∀ a, z.pt = some a → H3 a = some (.lst (List.replicate n (.int 0)))) : ER z σ H3 F G env n :=
  ⟨er.fg, gh, h0, fun a q => ⟨tw a q, (er.tw a q).2⟩, er.val, er.ow, er.ow2, er.dis, er.len⟩
theorem sb_spl {L : Nat} (g : Good X z.toCn W L) (tab : TabOk X.prog X.w X.K X.mg X.base L T) (gc : Gl X "_law_copy") (gs : Gl X "_law_spoil") {i j : Nat} {x y : Str} {e : Expr} {me : MD} {b : MB} {rest : List Stmt} {p1 p2 p3 p4 p5 p6 p7 p8 p9 p10 p11 : Pos}
    (hi : X.N[i]? = some x) (lx : Loc X.env.scope x) (hfx : X.fn x = true) (hd : (x == ("__debug__" : Str)) = false) (hd2 : (x == ("__classdict__" : Str)) = false) (hj : X.N[j]? = some y) (ly : Loc X.env.scope y) (hfy : X.fn y = true) (hij : i ≠ j) (hoj : z.own j = 0)
    (hc : noComp e = true) (he : SD X z W S T me e) (hb : SB X z W S T b rest) :
    SB X z W S T (.spl i j me b) (.Assign [.Name x p1] e p2 :: .Assign [.Name y p3] (.Call (.Name "_law_copy" p4) [.Name x p5] [] p6) p7 :: .Expr (.Call (.Name "_law_spoil" p8) [.Name x p9] [] p10) p11 :: rest) := fun σ H F G env n D er en h => by
  have vx : Vis X.env.scope x := by rcases lx with w | w; exact .inl w; exact .inr (.inl w)
  simp only [evB] at h
  refine (pss_cons (ps_set g.nd hi lx (peW e) (swaps0 hc _) (.inl hfx)) (pssW _)).w (he σ H F G env n _ er ?_)
  cases h1 : evD S T me env n with
  | ex c n1 => rw [h1] at h; exact fun H1 F1 G1 st => h σ H1 F1 G1 (er.step st) (en.step er st)
  | bad => rw [h1] at h; exact h
  | ok d n1 =>
    rw [h1] at h
    dsimp only [SO.of] at h
    intro v N H1 F1 G1 s1 nw r
    split at h
    rotate_left
    · exact h.elim
    rename_i run _ hT1 hT2
    split at h
    rotate_left
    · exact h.elim
    rename_i hcond
    obtain ⟨hlt, hsh, hsz⟩ := hcond
    obtain ⟨a, fd, ps, ok, hm, hk, hbd, hps⟩ := (tab _ _ _ hT1).ex
    rw [spG_of (by decide)] at ok
    obtain ⟨a', fd', ps', ok', hm', hk', hbd', hps'⟩ := (tab _ _ _ hT2).ex
    have es : ∀ run, spG X.K ("_law_spoil" : Str) 1 run = spSp deep := fun run => by unfold spG; rw [if_pos (by decide)]
    rw [es] at ok'
    have er0 := er.step s1
    have en0 := en.step er s1
    have er1 : ER z (σ.set i (some v)) H1 F1 G1 (env.set i none) n1 := er0.over
    have hσ : (σ.set i (some v))[i]? = some (some v) := List.getElem?_set_self (by rw [← er.len]; exact hlt)
    refine (pss_cons (ps_set g.nd hj ly (pe_callS ok g.room gc hm hk hbd (fun σ => passAt g.tk σ) (pa_cons (pe_var hi vx hd hd2) pa_nil) (by decide)) rfl (.inl hfy)) (pss_cons (ps_expr (pe_callS ok' g.room gs hm' hk' hbd' (fun σ => passAt g.tk σ) (pa_cons (pe_var hi vx hd hd2) pa_nil) (by decide)) (swapsNone rfl none)) (pssW rest))).w ?_
    refine ⟨v, hσ, rfl, z.pt, un G1 N, n1, [d], un_le er0.gh nw.le, fun a q => ⟨(er0.tw a q).1, Classical.byContradiction fun w => ?_⟩, by rw [g.K]; exact .cons (r.mono (un_right er0.gh nw.le)) .nil, ?_⟩
    · rcases un_none w with w | w
      · exact w (er0.tw a q).2.1
      · rcases nw.nn a w with w | w
        · exact w (er0.tw a q).2.1
        · exact w.mut (er.tw a q).1 trivial
    rw [g.K]
    have hFc : ∀ a, un G1 N a ≠ none → z.F0 a ≠ none ∨ Fr z.H0 a := fun a w => by
      rcases un_none w with w | w
      · exact en0.nw a w
      · rcases nw.nn a w with w | w
        · exact en0.nw a w
        · exact .inr (er.fr0 w)
    cases hr : run [d] n1 with
    | bad => rw [hr] at h; exact h
    | ex c n2 =>
      rw [hr] at h
      intro H2 F2 st
      have er2 := er1.more (N2 := fun _ => none) st (fun _ _ q => by cases q) (fun _ _ q _ => by cases q)
      have en2 := EN.more (N2 := fun _ => none) er1 en0 st (fun _ _ q => by cases q) hFc
      exact h (σ.set i (some v)) H2 _ _ er2 en2
    | ok d2 n2 =>
      rw [hr] at h
      intro v2 H2 F2 st r2 fr
      obtain ⟨N2, a1, a2, a3⟩ := fr (by decide)
      have er2 := er1.more st a1 a2
      have en2 := EN.more er1 en0 st a1 hFc
      have gH : Le G1 H2 := un_left.trans er2.gh
      have nH : Le N2 H2 := a1.trans st.fh
      have nt : ∀ a, N a ≠ none → z.pt ≠ some a := fun a w q => by
        rcases nw.nn a w with w | w
        · exact w (er0.tw a q).2.1
        · exact w.mut (er.tw a q).1 trivial
      have leN2 : Le N H2 := fun a o q => st.keep a o (nw.le a o q) (nt a (by rw [q]; simp))
      refine ⟨v, by rw [List.getElem?_set_ne (Ne.symm hij)]; exact hσ, ?_⟩
      show spSp deep [v] H2 (fun _ H3 => wSs X rest D ((σ.set i (some v)).set j (some v2)) H3) (WE W ((σ.set i (some v)).set j (some v2)))
      refine r.spoil leN2 hsh hsz fun H3 ch => ?_
      have keep : ∀ a o, H2 a = some o → ¬ LsOf N a → H3 a = some o := fun a o e w => ch.keep a o e fun q => absurd q w
      have er3 := er2.set (i := j) (v := v2) (d := d2) hoj (a3.mono (un_right (er1.fg.trans gH) nH))
      refine hb _ H3 (un F1 N2) (un G1 N2) _ n2 D (er3.chg (fun a o e => keep a o (er2.gh a o e) fun ⟨xs, w⟩ => ?_) (fun a o e q => keep a o (er2.h0 a o e q) fun ⟨xs, w⟩ => ?_) fun a q => keep a _ (er2.tw a q).1 fun ⟨xs, w⟩ => nt a (by rw [w]; simp) q) en2 h
      · obtain ⟨b1, b2⟩ := nw.ls a _ w trivial
        unfold un at e
        rw [b2] at e
        have e1 := nH _ _ e
        rw [leN2 _ _ w] at e1
        cases e1
        have := a2 a _ e trivial
        rw [nw.le _ _ w] at this
        cases this
      · have := er.free0 (nw.ls a _ w trivial).1
        rw [e] at this
        cases this
end
end L2.Ms

/-! # Msi: dicts of one's own -/
namespace L2.Ms
open PySem PySem.Spec PyProof.Rows Mv
theorem KT.mergeH {H : Hp} : ∀ {more : List (List Key × V)} {ys : List (List Key × Addr × Value)}, KT H more ys → ∀ {kvs : List (List Key × V)} {xs : List (List Key × Addr × Value)}, KT H kvs xs → KT H (more.foldl (fun acc kv => putK acc kv.1 kv.2) kvs) (storedAllH xs ys)
  | _, _, .nil, _, _, h => h
  | _, _, .cons (a := p) (b := q) a t, _, _, h => by
    have e : KT H (putK _ p.1 p.2) (storedH _ p.1 q.2.1 q.2.2) := KT.put h p.1 a.2.1 a.2.2
    rw [a.1] at e
    show KT H (List.foldl _ (putK _ p.1 p.2) _) (storedAllH (storedH _ q.1 q.2.1 q.2.2) _)
    rw [a.1]
    exact KT.mergeH t e
theorem length_foldT : ∀ (more kvs : List (List Key × V)), (more.foldl (fun acc kv => putK acc kv.1 kv.2) kvs).length ≤ kvs.length + more.length
  | [], kvs => by simp
  | p :: r, kvs => by
    have h1 := length_foldT r (putK kvs p.1 p.2)
    have h2 := length_putK kvs p.1 p.2
    rw [List.foldl_cons, List.length_cons]
    omega
section
variable {X : Cx}
def rUpdT : V → List V → Hp → VK → Prop := fun x xs H Q => ∃ (a b : Addr) (kvs more : List (List Key × V)), x = .ref a ∧ xs = [.ref b] ∧ a ≠ b ∧ H a = some (.dT kvs) ∧ H b = some (.dT more) ∧ kvs ≠ [] ∧ kvs.length + more.length ≤ sizeLine ∧ Q .non (upd H a (.dT (more.foldl (fun acc kv => putK acc kv.1 kv.2) kvs)))
theorem mt_updT (hu : X.A.units + 3 < cLine) : MtR X "dict.update" rUpdT := by
  intro pins s σ H x xs v us Q I rx rxs h
  obtain ⟨a, b, kvs, more, rfl, rfl, hab, ha, hb, hne, hlen, q⟩ := h
  obtain rfl : v = Value.ref a := rx
  obtain rfl := Vals.ref1 rxs
  obtain ⟨z1, hs1, xs1, rel1, dd1⟩ := dt_of I.hok ha
  obtain ⟨z2, hs2, xs2, rel2, dd2⟩ := dt_of I.hok hb
  have l1 : kvs.length = xs1.length := Paired.length rel1
  have l2 : more.length = xs2.length := Paired.length rel2
  refine call_update_dictH (knd := tupleKind (mixKind X.prog X.w)) (tupleKind_room_in1 (by show X.A.units + 1 < cLine; omega)) hab hs2 dd1 dd2 (.inl fun e => hne (by subst e; exact List.length_eq_zero_iff.mp l1)) (by rw [← l1, ← l2]; exact hlen) fun h' d1 d2 sb => ?_
  have rel := KT.mergeH rel2 rel1
  obtain ⟨q', es, ep, hq', h2, h3, h4, _, h5⟩ := d1
  refine ⟨.non, upd H a (.dT (more.foldl (fun acc kv => putK acc kv.1 kv.2) kvs)), d_write I (by rw [ha]; exact True.intro) sb ⟨q', hq'⟩ ⟨?_, hs1, _, rel.keeps fun c ys ec => ?_, q', es, ep, hq', h2, h3, h4, h5⟩, rfl, q⟩
  · have := length_foldT more kvs
    omega
  · rw [upd_ne (ne_of ec ha (fun z => nomatch z))]
    exact ec
end
section
variable {X : Cx} {z : Fx} {W : WX} {S : Sub} {T : Tab} {σ : St} {H F G H1 F1 G1 : Hp} {env : Ev} {n n1 : Nat} {D : Ends}
theorem Step.ownW {p : Addr} {o : HO} (er : ER z σ H F G env n) (s : Step z H F G H1 F1 G1 n1) (g : G p = some o) (m : Mut (some o)) (f : F p = none) : G1 p = some o ∧ F1 p = none ∧ H1 p = some o := by
  have g1 := s.gg _ _ g
  refine ⟨g1, Classical.byContradiction fun q => ?_, s.gh _ _ g1⟩
  rcases s.nf p q with h | h
  · exact h f
  · exact h.mut (er.gh _ _ g) m
/-- x = {} -/
theorem ss_dnw {i : Nat} {x : Str} {p q pos : Pos} {b : Bool} (hN : X.N.Nodup) (hi : X.N[i]? = some x) (hx : Loc X.env.scope x) (hf : X.fn x = true ∨ X.env.scope.names.lookup x = some .local) (ho : z.own i = 1) :
    SS X z W S T (.dnw i b) (.Assign [.Name x p] (.Dict [] [] q) pos) := fun σ H F G env n D er en h => by
  have h : PostS z W D (.nx (env.set i (some (if b then .dit [] else .dic []))) n) := h
  cases b with
  | true =>
    refine (ps_set hN hi hx pe_dnewT rfl hf).w (fun p hp => ?_)
    have er1 := er.step (er.refl.newH er.dom0 (o := .dT []) hp)
    exact h _ _ F _ (er1.setOwnW ho upd_same trivial (er.gh.non hp) (er.notTown hp) ⟨[], upd_same, .nil⟩) (en.own (er.free0 hp))
  | false =>
    refine (ps_set hN hi hx pe_dnewK rfl hf).w (fun p hp => ?_)
    have er1 := er.step (er.refl.newH er.dom0 (o := .dK []) hp)
    exact h _ _ F _ (er1.setOwnW ho upd_same trivial (er.gh.non hp) (er.notTown hp) ⟨[], upd_same, .nil⟩) (en.own (er.free0 hp))
/-- x[k] = e -/
theorem ss_dpt {i : Nat} {x : Str} {p q pos : Pos} {k e : Expr} {mk me : ME} (hu : X.A.units + 1 < cLine) (hi : X.N[i]? = some x) (hv : Vis X.env.scope x) (hd : (x == ("__debug__" : Str)) = false) (hd2 : (x == ("__classdict__" : Str)) = false) (hc : noComp e = true) (ho : z.own i = 1) (hk : SE X z W S T mk k) (he : SE X z W S T me e) (h2 : 2 ≤ lev z.own me) :
    SS X z W S T (.dpt i mk me) (.Assign [.Subscript (.Name x p) k q] e pos) := fun σ H F G env n D er en h => by
  simp only [evS] at h
  refine (ps_dput hu (pe_var hi hv hd hd2) (peW k) (peW e) (swaps0 hc _)).w ?_
  split at h
  · rename_i kvs he0
    obtain ⟨a, e1, e3, kv, e2, r⟩ := er.ow i _ he0 ho
    refine he.useS er en h fun d n1 v H1 F1 G1 _ s1 er1 en1 r1 h1 => ⟨_, e1, hk.useS er1 en1 h1 fun kd n2 y H2 F2 G2 _ s2 er2 en2 r2 h2' => ?_⟩
    split at h2'
    rotate_left
    · exact h2'.elim
    rename_i hkk
    obtain ⟨key, rfl, rfl⟩ := (r2.g er2.fg).key hkk.1
    obtain ⟨g1, f1, k1⟩ := Step.ownW er (s1.trans s2) e2 trivial e3
    obtain ⟨er3, en3⟩ := er2.mutW (u := .dK (putK kv key v)) (d1 := .dic (dput kvs (kD key) d)) en2 ho he0 e1 g1 trivial f1 ⟨_, upd_same, RepK.put key ((r1.two h2).mono s2.ff) (r.mono (s1.trans s2).ff)⟩
    exact ⟨a, _, rfl, DPut.k k1 (by rw [r.length, ← line_eq]; exact hkk.2), h2' σ _ F2 _ er3 en3⟩
  · rename_i kvs he0
    obtain ⟨a, e1, e3, kv, e2, r⟩ := er.ow i _ he0 ho
    refine he.useS er en h fun d n1 v H1 F1 G1 _ s1 er1 en1 r1 h1 => ⟨_, e1, hk.useS er1 en1 h1 fun kd n2 y H2 F2 G2 _ s2 er2 en2 r2 h2' => ?_⟩
    split at h2'
    rotate_left
    · exact h2'.elim
    rename_i hkk
    cases kd with
    | tup xs =>
      obtain ⟨b, us, rfl, eb, rb, _⟩ := lvTup er2.fg r2
      obtain ⟨key, rfl, rfl⟩ := rb.keys hkk.1
      obtain ⟨g1, f1, k1⟩ := Step.ownW er (s1.trans s2) e2 trivial e3
      obtain ⟨er3, en3⟩ := er2.mutW (u := .dT (putK kv key v)) (d1 := .dit (dput kvs (.tup (key.map kD)) d)) en2 ho he0 e1 g1 trivial f1 ⟨_, upd_same, RepT.put key ((r1.two h2).mono s2.ff) (r.mono (s1.trans s2).ff)⟩
      exact ⟨a, _, rfl, DPut.t k1 (er2.gh _ _ eb) (by rw [r.length, ← line_eq]; exact hkk.2), h2' σ _ F2 _ er3 en3⟩
    | _ => simp [kT] at hkk
  · exact h.elim
/-- x.update(y) -/
theorem ss_dup {i j : Nat} {x y : Str} {p q apos pos pos2 : Pos} (hu : X.A.units + 3 < cLine) (hi : X.N[i]? = some x) (hv : Vis X.env.scope x) (hd : (x == ("__debug__" : Str)) = false) (hd2 : (x == ("__classdict__" : Str)) = false) (hline : (apos.endLine == pos.line) = true)
    (hj : X.N[j]? = some y) (hvj : Vis X.env.scope y) (hdj : (y == ("__debug__" : Str)) = false) (hdj2 : (y == ("__classdict__" : Str)) = false) (ho : z.own i = 1) (hoj : z.own j = 1) :
    SS X z W S T (.dup i j) (.Expr (.Call (.Attribute (.Name x p) "update" apos) [.Name y q] [] pos) pos2) := fun σ H F G env n D er en h => by
  simp only [evS] at h
  split at h
  · rename_i kvs more he0 he1
    split at h
    rotate_left
    · exact h.elim
    rename_i hc
    obtain ⟨a, e1, e3, kv, e2, r⟩ := er.ow i _ he0 ho
    obtain ⟨b, c1, c3, mo, c2, rc⟩ := er.ow j _ he1 hoj
    have hab : a ≠ b := fun e => er.dis i j _ _ a b a hc.2.1 (by omega) (by omega) he0 he1 e1 c1 (.inl rfl) (.inl e)
    refine (ps_expr (pe_bm PySem.F.plainAttrs_dict PySem.F.slot_dict_update PySem.F.type_dict_update (mt_updT hu) (pe_var hi hv hd hd2) (pa_cons (pe_var hj hvj hdj hdj2) pa_nil) rfl rfl hline rfl rfl)).w ?_
    refine ⟨_, e1, .inr (.inr (.inl ⟨rfl, .inr ⟨_, er.gh _ _ e2⟩⟩)), _, c1, a, b, kv, mo, rfl, rfl, hab, er.gh _ _ e2, er.gh _ _ c2, fun e => hc.2.2 (by subst e; cases r; rfl), by rw [r.length, rc.length, ← line_eq]; exact hc.1, ?_⟩
    obtain ⟨er3, en3⟩ := er.mutW (u := .dT (mo.foldl (fun acc kv => putK acc kv.1 kv.2) kv)) (d1 := .dit (more.foldl (fun acc kv => dput acc kv.1 kv.2) kvs)) en ho he0 e1 e2 trivial e3 ⟨_, upd_same, RepT.merge rc r⟩
    exact h σ _ F _ er3 en3
  · exact h.elim
/-- a dict of one's own is locked -/
theorem ER.lockD {i : Nat} {p : Addr} {u : HO} {od : Obj} {d0 d1 : Mv.D} (er : ER z σ H F G env n) (en : EN z F G) (ho : z.own i = 1) (he : env[i]? = some (some d0)) (hσ : σ[i]? = some (some (.ref p))) (hg : G p = some u) (m : Mut (some u)) (hf : F p = none) (r : Rep z.toCn (upd F p (.frz od u)) (.ref p) d1) :
    ER (z.th (minus z.own [i])) σ (upd H p (.frz od u)) (upd F p (.frz od u)) (upd G p (.frz od u)) (env.set i (some d1)) n ∧ EN (z.th (minus z.own [i])) (upd F p (.frz od u)) (upd G p (.frz od u)) := by
  have h0 := en.own0 er hg m hf
  have ht : ∀ a, z.pt = some a → a ≠ p := fun a q e => by subst e; rw [(er.tw a q).2.1] at hg; cases hg
  have mo : ∀ j, j ≠ i → minus z.own [i] j = z.own j := fun j h => minus_out (by simpa using h)
  have off : ∀ (j : Nat) e q a, j ≠ i → env[j]? = some (some e) → z.own j ≠ 0 → σ[j]? = some (some (.ref q)) → Owns G q (z.own j) a → a ≠ p := fun j e q a hj h1 h2 h3 w e1 => by
    subst e1
    exact er.dis i j _ _ a q a (Ne.symm hj) (by omega) h2 he h1 hσ h3 (.inl rfl) w
  have nz : ∀ j, minus z.own [i] j ≠ 0 → j ≠ i := fun j h e => by subst e; exact h (minus_in (by simp))
  refine ⟨⟨er.fg.both, er.gh.both, fun a o h q => by rw [upd_ne (ne_of_none h h0)]; exact er.h0 a o h q, fun a q => by rw [upd_ne (ht a q), upd_ne (ht a q)]; exact er.tw a q, fun j d h hj => ?_, fun j d h hj => ?_, fun j d h hj => ?_, fun j k d e p1 p2 a hne hj hk h1 h2 h3 h4 w1 w2 => ?_, by simp [er.len]⟩, ⟨en.f0.trans (Le.grow hf), fun a h => ?_⟩⟩
  · have hj : minus z.own [i] j = 0 := hj
    rcases set_live h with ⟨rfl, e1, hlt⟩ | ⟨q, h⟩
    · cases e1
      exact ⟨_, hσ, r⟩
    · rw [mo j (Ne.symm q)] at hj
      obtain ⟨v, a, b⟩ := er.val j d h hj
      exact ⟨v, a, b.mono (Le.grow hf)⟩
  · have hj : minus z.own [i] j = 1 := hj
    have q := nz j (by omega)
    rw [List.getElem?_set_ne (Ne.symm q)] at h
    rw [mo j q] at hj
    obtain ⟨p', a2, a4, w⟩ := er.ow j d h hj
    have ne := off j d p' p' q h (by omega) a2 (.inl rfl)
    exact ⟨p', a2, by rw [upd_ne ne]; exact a4, w.mono (Le.grow hf) fun o e => by rw [upd_ne ne]; exact e⟩
  · have hj : 2 ≤ minus z.own [i] j := hj
    have q := nz j (by omega)
    rw [List.getElem?_set_ne (Ne.symm q)] at h
    rw [mo j q] at hj
    obtain ⟨p', vs', ds', a1, a2, a3, a4, a5, a6⟩ := er.ow2 j d h hj
    have ne := off j d p' p' q h (by omega) a2 (.inl rfl)
    refine ⟨p', vs', ds', a1, a2, by rw [upd_ne ne]; exact a3, by rw [upd_ne ne]; exact a4, a5.mono (Le.grow hf) fun q' us mm c f => ?_, a6⟩
    have ne2 := off j d p' q' q h (by omega) a2 (.inr ⟨hj, vs', a3, mm⟩)
    rw [upd_ne ne2, upd_ne ne2]
    exact ⟨c, f⟩
  · have hj : minus z.own [i] j ≠ 0 := hj
    have hk : minus z.own [i] k ≠ 0 := hk
    have w1 : Owns (upd G p (.frz od u)) p1 (minus z.own [i] j) a := w1
    have w2 : Owns (upd G p (.frz od u)) p2 (minus z.own [i] k) a := w2
    have q1 := nz j hj
    have q2 := nz k hk
    rw [List.getElem?_set_ne (Ne.symm q1)] at h1
    rw [List.getElem?_set_ne (Ne.symm q2)] at h2
    rw [mo j q1] at hj w1
    rw [mo k q2] at hk w2
    exact er.dis j k d e p1 p2 a hne hj hk h1 h2 h3 h4 (w1.off (off j d p1 p1 q1 h1 hj h3 (.inl rfl))) (w2.off (off k e p2 p2 q2 h2 hk h4 (.inl rfl)))
  · by_cases q : a = p
    · subst q; exact .inr (.inl h0)
    · rw [upd_ne q] at h; exact en.nw a h
theorem PostS.unth1 {i : Nat} {o : SO} (h7 : (1000 : Nat) ≠ i) (h : PostS z W D (match o with
      | .nx env n => .nx (env.set i none) n
      | .ex c n env => .ex c n (env.set i none)
      | o => o)) : PostS (z.th (minus z.own [i])) W D o := by
  cases o with
  | nx env' n' => exact fun σ' H' F' G' er' en' => h σ' H' F' G' (er'.unth (js := [i])) ⟨en'.f0, en'.nw⟩
  | rt d n' => exact fun v H' G' rt r fr => h v H' G' ⟨rt.f0, rt.gh, rt.nw, rt.h0, rt.tw⟩ r fun q => fr (show minus z.own [i] 1000 = 7 by rw [minus_out (by simpa using h7)]; exact q)
  | ex c n' env' => exact fun σ' H' F' G' er' en' => h σ' H' F' G' (er'.unth (js := [i])) ⟨en'.f0, en'.nw⟩
  | bad => exact h
/-- .. for a row and all behind it -/
theorem ss_frd {i : Nat} {s : MS} {st : Stmt} (h7 : (1000 : Nat) ≠ i) (ho : z.own i = 1) (hs : SS X (z.th (minus z.own [i])) W S T s st) : SS X z W S T (.frd i s) st := fun σ H F G env n D er en h => by
  simp only [evS] at h
  split at h
  · rename_i kvs he
    obtain ⟨p, e1, e3, kv, e2, r⟩ := er.ow i _ he ho
    intro pins sh I
    obtain ⟨od, J⟩ := I.lock (er.gh _ _ e2) trivial
    obtain ⟨er1, en1⟩ := er.lockD (od := od) (d1 := .fdk kvs) en ho he e1 e2 trivial e3 (.fdk upd_same (r.mono (Le.grow e3)))
    exact hs σ _ _ _ _ n D er1 en1 (PostS.unth1 h7 h) pins sh J
  · rename_i kvs he
    obtain ⟨p, e1, e3, kv, e2, r⟩ := er.ow i _ he ho
    intro pins sh I
    obtain ⟨od, J⟩ := I.lock (er.gh _ _ e2) trivial
    obtain ⟨er1, en1⟩ := er.lockD (od := od) (d1 := .fdt kvs) en ho he e1 e2 trivial e3 (.fdt upd_same (r.mono (Le.grow e3)))
    exact hs σ _ _ _ _ n D er1 en1 (PostS.unth1 h7 h) pins sh J
  · exact h.elim
/-- a, b, c, d = e, of a list -/
theorem ss_unl {g : Cfg} {L : Nat} {sc : Scope} (c : Ctx g X z W L S T sc) {i j k l : Nat} {e : Expr} {me : ME} {pos pt : Pos} {ts : List Expr} {kt : Nat} (hn : noComp e = true) (ht : noTup e = true) (hg : PG X (.Tuple ts kt pt) (gLst X.K 4 (gCons (gName i) (gCons (gName j) (gCons (gName k) (gCons (gName l) gNil))))))
    (oi : z.own i = 0) (oj : z.own j = 0) (ok : z.own k = 0) (ol : z.own l = 0) (he : SE X z W S T me e) (h2 : 1 ≤ lev z.own me) :
    SS X z W S T (.unl [i, j, k, l] me) (.Assign [.Tuple ts kt pt] e pos) := fun σ H F G env n D er en h => by
  refine (ps_asg (peW e) hg (swapsSole hn) (swStoresT ht) rfl).w ?_
  simp only [evS] at h
  refine he.useS er en h fun d n1 v H1 F1 G1 _ s1 er1 en1 r1 h1 => ?_
  cases d with
  | lst xs =>
    dsimp only at h1
    obtain ⟨env1, hb, h1⟩ := ofO_some h1
    obtain ⟨a, vs, rfl, ea, _, rf⟩ := lvLst er1.fg r1
    have ra := rf h2
    simp only [bindT] at hb
    split at hb
    · rename_i x y w t hx
      cases hx
      cases hb
      cases ra with
      | cons rx u =>
        cases u with
        | cons ry u =>
          cases u with
          | cons rz u =>
            cases u with
            | cons rt u =>
              cases u
              refine ⟨a, _, rfl, SqL.of (er1.gh _ _ ea), rfl, _, _, rfl, _, _, rfl, _, _, rfl, _, _, rfl, rfl, ?_⟩
              exact h1 _ _ _ _ ((((er1.set oi rx).set oj ry).set ok rz).set ol rt) en1
    · cases hb
  | _ => exact h1.elim
/-- e[k], of what is new -/
theorem sd_idx {a : MD} {e : Expr} {k : Int} {j : Nat} {p pos : Pos} (ha : SD X z W S T a e) : SD X z W S T (.idx a k) (.Subscript e (.Constant (.int k) j p) pos) := fun σ H F G env n Q er h => by
  intro pins s I
  refine Subscript_ (binT (peW e) (peW (.Constant (.int k) j p)) I (R := fun x y H2 => wX X e (.Constant (.int k) j p) x y H2 Q) (ha σ H F G env n _ er ?_) fun v u s2 x y H2 I2 rx ry q => q pins s2 σ v u I2 rx ry rfl)
  simp only [evD] at h
  cases h1 : evD S T a env n with
  | ok d n1 =>
    rw [h1, Out.bind_ok] at h
    intro v N H1 F1 G1 st nw r
    refine pe_int.w ?_
    cases d with
    | tup xs =>
      obtain ⟨b, vs, rfl, eb, rb⟩ := r.tupE
      have h : PostD z W σ H F G (Out.lift ((Mv.ixN xs.length k).bind fun j => xs[j]?) n1) Q := h
      cases h2 : (Mv.ixN xs.length k).bind fun j => xs[j]? with
      | none => rw [h2] at h; exact h.elim
      | some r2 =>
        rw [h2] at h
        obtain ⟨m, h3, h4⟩ := Option.bind_eq_some_iff.mp h2
        obtain ⟨v, hv, rv⟩ := rb.get h4
        refine ix_tup.w ⟨b, vs, k, v, rfl, rfl, SqT.of (nw.le _ _ eb), ?_, h v N H1 F1 G1 st nw rv⟩
        unfold atI
        rw [rb.length, ← ixN_eq, h3]
        exact hv
    | _ => exact h.elim
  | ex c n1 => rw [h1] at h; exact h
  | bad => rw [h1] at h; exact h
theorem swStoresC {x y : Str} {px py p p2 : Pos} {k k2 : Nat} {a b : Expr} {e : Env} (h : e.scope.names.lookup x = some .cell) : swappedStores [.Tuple [.Name x px, .Name y py] k p] (.Tuple [a, b] k2 p2) e = pure none := by
  have kx : (e.kindOf x == some .local) = false := by
    have : e.kindOf x = some .cell := h
    rw [this]; rfl
  have hl : ∀ q : Bool, ([Expr.Name x px, Expr.Name y py].filterMap fun | .Name id pos => if e.kindOf id == some .local && pos.line == px.line then some id else none | _ => none).length ≠ 2 := fun _ => by
    have e0 : ([Expr.Name x px, Expr.Name y py].filterMap fun | .Name id pos => if e.kindOf id == some .local && pos.line == px.line then some id else none | _ => none) = [Expr.Name y py].filterMap fun | .Name id pos => if e.kindOf id == some .local && pos.line == px.line then some id else none | _ => none := by
      simp only [List.filterMap_cons, kx, Bool.false_and, Bool.false_eq_true, if_false]
    rw [e0]
    have := List.length_filterMap_le (fun | Expr.Name id pos => if e.kindOf id == some .local && pos.line == px.line then some id else none | _ => none) [Expr.Name y py]
    simp only [List.length_cons, List.length_nil] at this
    omega
  have c3 : (([Expr.Name x px, Expr.Name y py].filterMap fun | .Name id pos => if e.kindOf id == some .local && pos.line == px.line then some id else none | _ => none).length != [Expr.Name x px, Expr.Name y py].length) = true := by
    simpa only [bne_iff_ne, ne_eq, List.length_cons, List.length_nil] using hl true
  unfold swappedStores
  show (if _ then _ else _ : Sem (Option (List Str))) = _
  split
  · rfl
  · split
    · rfl
    · show (if (([Expr.Name x px, Expr.Name y py].filterMap fun | .Name id pos => if e.kindOf id == some .local && pos.line == px.line then some id else none | _ => none).length != [Expr.Name x px, Expr.Name y py].length || _) = true then _ else _ : Sem (Option (List Str))) = _
      rw [c3]
      rfl
/-- a, b = (c, d), where a is captured -/
theorem ss_unpC {g : Cfg} {L : Nat} {sc : Scope} (c : Ctx g X z W L S T sc) {is : List Nat} {x y : Str} {px py pos pt p2 : Pos} {kt k2 : Nat} {a b : Expr} {me : ME} (hcell : sc.names.lookup x = some .cell) (hg : PG X (.Tuple [.Name x px, .Name y py] kt pt) (gOf X.K is)) (hoi : ∀ j ∈ is, z.own j = 0) (he : SE X z W S T me (.Tuple [a, b] k2 p2)) (h2 : 2 ≤ lev z.own me) :
    SS X z W S T (.unp is me) (.Assign [.Tuple [.Name x px, .Name y py] kt pt] (.Tuple [a, b] k2 p2) pos) := fun σ H F G env n D er en h => by
  refine (ps_asg (peW _) hg (swapsSole rfl) (swStoresC (by rw [c.sc]; exact hcell)) rfl).w ?_
  simp only [evS] at h
  refine he.useS er en h fun d n1 v H1 F1 G1 _ s1 er1 en1 r1 h1 => ?_
  obtain ⟨env1, he1, h1⟩ := ofO_some h1
  exact gOf_ok c.good.K er1 hoi (r1.two h2) he1 fun σ1 er3 _ _ => h1 σ1 _ F1 _ er3 en1
end
end L2.Ms

namespace L2.Ms
open PySem PySem.Spec PyProof.Rows Mv
section
variable {g : Cfg} {X : Cx} {z : Fx} {W : WX} {L : Nat} {S : Sub} {T : Tab} {sc : Scope}
/-- a def's own frame runs -/
structure Own (X : Cx) : Prop where
  stk : X.stack = X.env :: X.outer
  fr : X.env.frame = some X.env.locals
  ex : X.ex = []
  fn : ∀ x, X.fn x = true
  bk : X.env.blockKind = .function
theorem ss_try (c : Ctx g X z W L S T sc) (o : Own X) {b : MB} {body : List Stmt} {i j : Nat} {n y : Str} {np py pm sp pos pos' : Pos} (hi : X.N[i]? = some y) (hj : X.N[j]? = some n) (hij : j ≠ i) (hly : sc.names.lookup y = some .local) (hln : sc.names.lookup n = some .local) (hR : ("RuleError" : Str) ∈ g.ec) (hG : sc.names.lookup ("RuleError" : Str) = some .globalImplicit)
    (hnd : (n == ("__debug__" : Str)) = false) (hnc : (n == ("__classdict__" : Str)) = false) (ho : z.own i = 0) (hB : ∀ W' pn xe, Takes (X.tr pn xe) W' → PassesOwn (model X.prog X.w) X.A X.env xe → SB (X.tr pn xe) z W' S T b body) :
    SS X z W S T (.try_ b i j) (.Try body [.ExceptHandler (some (.Name "RuleError" np)) (some n) [.Assign [.Name y py] (.Name n pm) sp] pos'] [] [] pos) := fun σ H F G env m D er en h => by
  have kn : X.env.kindOf n = some .local := by show X.env.scope.names.lookup n = _; rw [c.sc]; exact hln
  have ky : X.env.kindOf y = some .local := by show X.env.scope.names.lookup y = _; rw [c.sc]; exact hly
  refine (ps_catch (tb := fun W' D σ H => ∃ F G env m, ER z σ H F G env m ∧ EN z F G ∧ PostS z W' D (evB S T b env m)) (Wout := W) o.stk o.fr o.ex c.good.nd hj kn hi ky hnd hnc ⟨c.gl hG, by decide, .inl (c.mf.excG _ hR)⟩ c.good.tk fun W' pn xe tk po => ⟨fun pins s σ H D I ⟨F, G, env, m, er, en, p⟩ => hB W' pn xe tk po σ H F G env m D er en p pins s I⟩).w ⟨F, G, env, m, er, en, ?_⟩
  simp only [evS] at h
  cases h1 : evB S T b env m with
  | nx env' n' => rw [h1] at h; exact h
  | rt d n' => rw [h1] at h; exact h
  | bad => rw [h1] at h; exact h
  | ex cn n' env' =>
    rw [h1] at h
    dsimp only at h
    split at h
    · rename_i hS
      have hc := c.mf.sub cn _ hS
      intro σ' H' F' G' er' en'
      rw [← c.good.K]
      refine ⟨true, by rw [c.mf.exm cn hc, hS], fun _ => ⟨rfl, fun a ha => ?_⟩, fun q => by cases q⟩
      have st := er'.refl.newF er'.dom0 (o := exO z.K cn a) ha
      have er2 := (er'.step st).set (i := i) (v := .ref a) (d := .exc cn) ho (.exc upd_same)
      have er3 := er2.gone (i := j)
      have eσ : ((σ'.set j (some (.ref a))).set i (some (.ref a))).set j none = (σ'.set i (some (.ref a))).set j none := by
        rw [List.set_comm _ _ hij, List.set_set]
      rw [eσ]
      have := h _ _ _ _ er3 (en'.step er' st)
      rw [← c.good.K] at this
      exact this
    · exact h.elim
end

section
variable {g : Cfg} {X : Cx} {z : Fx} {W : WX} {L : Nat} {S : Sub} {T : Tab} {sc : Scope}
theorem loc_vis {s : Scope} {x : Str} (h : Loc s x) : Vis s x := by rcases h with w | w; exact .inl w; exact .inr (.inl w)
theorem sb_tld (c : Ctx g X z W L S T sc) (o : Own X) {md : MD} {r : ME} {i j k : Nat} {x y n cst : Str} {e R : Expr} {p1 p2 p3 p4 p5 p6 p7 p8 p9 p10 np py pm sp pos pos' : Pos} {j0 j1 kt : Nat}
    (hi : X.N[i]? = some x) (hj : X.N[j]? = some y) (hk : X.N[k]? = some n) (hkj : k ≠ j) (hij : i ≠ j) (hlx : sc.names.lookup x = some .local) (hly : sc.names.lookup y = some .local) (hln : sc.names.lookup n = some .local) (hR : ("RuleError" : Str) ∈ g.ec) (hG : sc.names.lookup ("RuleError" : Str) = some .globalImplicit)
    (hnd : (n == ("__debug__" : Str)) = false) (hnc : (n == ("__classdict__" : Str)) = false) (hxd : (x == ("__debug__" : Str)) = false) (hxc : (x == ("__classdict__" : Str)) = false) (hyd : (y == ("__debug__" : Str)) = false) (hyc : (y == ("__classdict__" : Str)) = false) (ho : z.own j = 0) (hcmp : noComp e = true)
    (hB : ∀ W' pn xe, Takes (X.tr pn xe) W' → PassesOwn (model X.prog X.w) X.A X.env xe → SD (X.tr pn xe) z W' S T md e) (hr : SE X z W S T r R) :
    SB X z W S T (.tld i j k md cst r) [.Try [.Assign [.Name x p1] e p2] [.ExceptHandler (some (.Name "RuleError" np)) (some n) [.Assign [.Name y py] (.Name n pm) sp] pos'] [] [] pos,
      .Return (some (.IfExp (.Compare (.Name y p3) [.Is] [.Constant .none j0 p4] p5) (.Tuple [.Constant (.str cst) j1 p6, .Name x p7] kt p8) R p9)) p10] := fun σ H F G env m D er en h => by
  have lx : Loc X.env.scope x := by rw [c.sc]; exact .inl hlx
  have ly : Loc X.env.scope y := by rw [c.sc]; exact .inl hly
  have kn : X.env.kindOf n = some .local := by show X.env.scope.names.lookup n = _; rw [c.sc]; exact hln
  have ky : X.env.kindOf y = some .local := by show X.env.scope.names.lookup y = _; rw [c.sc]; exact hly
  simp only [evB] at h
  split at h
  rotate_left
  · exact h.elim
  rename_i hej
  split at h
  · exact h.elim
  rename_i hil
  obtain ⟨vy, sy, ry⟩ := er.val j _ hej ho
  have evy := ry.nonE
  subst evy
  have hjl : j < env.length := (List.getElem?_eq_some_iff.mp hej).1
  refine (pss_cons (ps_catch (tb := fun W' D' σ' H' => σ' = σ ∧ H' = H ∧ PostD z W' σ H F G (evD S T md env m) fun v H1 => D'.nx (σ.set i (some v)) H1) (Wout := W) o.stk o.fr o.ex c.good.nd hk kn hj ky hnd hnc ⟨c.gl hG, by decide, .inl (c.mf.excG _ hR)⟩ c.good.tk fun W' pn xe tk po => ⟨fun pins s σ' H' D' I hp => ?_⟩) (pssW _)).w ⟨rfl, rfl, ?_⟩
  · obtain ⟨rfl, rfl, hp⟩ := hp
    exact (pss_cons (ps_set (X := X.tr pn xe) c.good.nd hi lx (peW e) (swaps0 hcmp _) (.inl (o.fn x))) pss_nil).w (hB W' pn xe tk po _ _ _ _ _ _ _ er hp) pins s I
  · cases h1 : evD S T md env m with
    | bad => rw [h1] at h; exact h
    | ok d n1 =>
      rw [h1] at h
      intro v N H1 F1 G1 s1 nw rv
      have er1 := er.step s1
      refine (pss_cons (ps_ret (pe_ifExp (pt_cmp (pc_isN (pe_var hj (loc_vis ly) hyd hyc)) (nobehind _ (by decide) (by decide))) (pe_tup (pa_cons pe_str (pa_cons (pe_var hi (loc_vis lx) hxd hxc) pa_nil))) (peW R))) pss_nil).w ?_
      refine ⟨.non, by rw [List.getElem?_set_ne hij]; exact sy, ?_⟩
      refine ⟨true, rfl, ?_⟩
      dsimp only
      rw [if_pos rfl]
      refine ⟨v, List.getElem?_set_self (by rw [← er.len]; omega), by rw [← line_eq]; show 2 ≤ 16777216; omega, fun p hp => ?_⟩
      have nw' := nw.new (o := .tup [.str cst, v]) s1 hp
      have s1' := s1.newH (o := .tup [.str cst, v]) er1.dom0 hp
      obtain ⟨rt, le, ls⟩ := nw'.ret er en s1'
      have rv' : Rep z.toCn (upd N p (.tup [.str cst, v])) (.ref p) (.tup [.str cst, d]) := .tup upd_same (.cons (.str cst) (.cons (rv.mono (Le.grow (nw.le.non hp))) .nil))
      exact h (.ref p) _ _ rt (rv'.mono le) fun _ => ⟨_, le, ls, rv'⟩
    | ex cn n1 =>
      rw [h1] at h
      dsimp only at h
      split at h
      rotate_left
      · exact h.elim
      rename_i hS
      have hc := c.mf.sub cn _ hS
      intro H1 F1 G1 s1
      rw [← c.good.K]
      refine ⟨true, by rw [c.mf.exm cn hc, hS], fun _ => ⟨rfl, fun a ha => ?_⟩, fun q => by cases q⟩
      have er1 := (er.step s1).kill (i := i)
      have en1 := en.step er s1
      have st := er1.refl.newF er1.dom0 (o := exO z.K cn a) ha
      have er2 := (er1.step st).set (i := j) (v := .ref a) (d := .exc cn) ho (.exc upd_same)
      have er3 := er2.gone (i := k)
      have eσ : ((σ.set k (some (.ref a))).set j (some (.ref a))).set k none = (σ.set j (some (.ref a))).set k none := by
        rw [List.set_comm _ _ hkj, List.set_set]
      rw [eσ]
      have en3 := en1.step er1 st
      have sb := sb_cons (ss_retD (pos := p10) (sd_ite (pos := p9) (st_isN (j := j0) (p' := p4) (pos := p5) (se_v (z := z) (W := W) (S := S) (T := T) (i := j) (pe_var (pos := p3) hj (loc_vis ly) hyd hyc))) (sd_bad (e := .Tuple [.Constant (.str cst) j1 p6, .Name x p7] kt p8)) (sd_chk hr))) (sb_nil (X := X) (z := z) (W := W) (S := S) (T := T))
      suffices key : PostS z W D (evB S T (.cons (.retD (.ite (.p1 .isN (.v j)) .bad (.chk r))) .nil) (((env.set i none).set j (some (Mv.D.exc cn))).set k none) n1) by
        have q := sb _ _ _ _ _ _ _ er3 en3 key
        rw [← c.good.K] at q
        exact q
      have hv : (((env.set i none).set j (some (Mv.D.exc cn))).set k none)[j]? = some (some (.exc cn)) := by
        rw [List.getElem?_set_ne hkj, List.getElem?_set_self (by simpa using hjl)]
      have e1 : evE S T (.p1 .isN (.v j)) (((env.set i none).set j (some (Mv.D.exc cn))).set k none) n1 = .ok (.bl false) n1 := by
        simp only [evE, hv, Out.bind_ok]
        rfl
      simp only [evB, evS, evD, e1, Out.bind_ok]
      revert h
      cases evE S T r (((env.set i none).set j (some (Mv.D.exc cn))).set k none) n1 with
      | ok d n2 =>
        intro h
        dsimp only at h
        simp only [Out.bind_ok]
        split at h
        · rename_i hn
          rw [if_pos hn]
          exact h
        · exact h.elim
      | ex c' n2 => exact fun h => h.elim
      | bad => exact fun h => h.elim
end

/-! ### statements from the text -/
def locN (g : Cfg) (sc : Scope) (x : Str) : Bool := decide (g.N[g.N.idxOf x]? = some x) && locB sc x
def noSD : Expr → Bool
  | .SetComp .. => false
  | .DictComp .. => false
  | _ => true
def okNm (g : Cfg) (sc : Scope) (x : Str) : Bool := locN g sc x && !(x == ("__debug__" : Str)) && !(x == ("__classdict__" : Str))
/-- a new list -/
def cFr (g : Cfg) (sc : Scope) (rE : Expr → ME) (rA : List Expr → MEs) (e : Expr) : ME := match e with
  | .List es _ => if es.all noStar then .lst (rA es) else .bad
  | .Call (.Name f _) [.Call (.Name x _) [a] [] _] [] _ => if f = "list" ∧ x = "range" ∧ isGl g sc "list" = true ∧ isGl g sc "range" = true ∧ noStar a = true then .p1 .rngL (rE a) else if f = "sorted" ∧ x = "set" ∧ isGl g sc "sorted" = true ∧ isGl g sc "set" = true ∧ noStar a = true then .p1 .sset (rE a) else .bad
  | .Call (.Name f _) [a] [] _ => if f = "list" ∧ isGl g sc "list" = true ∧ noStar a = true then .p1 .toL (rE a) else if f = "sorted" ∧ isGl g sc "sorted" = true ∧ noStar a = true then .p1 .srt (rE a) else .bad
  | .Subscript a (.Slice none none (some (.UnaryOp .USub (.Constant (.int 1) _ _) _)) _) _ => .p1 .rev (rE a)
  | _ => .bad
def isLc : Expr → Bool
  | .ListComp .. => true
  | _ => false
/-- {} -/
def isDic0 : Expr → Bool
  | .Dict [] [] _ => true
  | _ => false
def isNil : Expr → Bool
  | .List [] _ => true
  | _ => false
/-- a new list, of many -/
def cFrR (g : Cfg) (sc : Scope) (rE : Expr → ME) (rA : List Expr → MEs) (e : Expr) : ME := match e with
  | .Call (.Name f _) [a] [] _ => if f = "list" ∧ isGl g sc "list" = true ∧ noStar a = true then .p1 .toL (rE a) else .bad
  | .BinOp (.List es _) .Mult b _ => if es.all noStar then .p2 .mul (.lst (rA es)) (rE b) else .bad
  | _ => .bad
def cLcR (g : Cfg) (sc : Scope) (rI : Expr → MI) (rF : Scope → Expr → ME) (elt : Expr) (gs : List Comprehension) (scope : Scope) : ME := match gs with
  | [⟨tg, it, [], 0⟩] => (match tgNames tg with
    | some xs => if blkC g.N sc scope (xs.map fun x => (x, g.N.idxOf x)) && !isSetE it && xs.all (fun x => decide (g.N[g.N.idxOf x]? = some x) && (isLocal (relS scope sc) x || (decide ((relS scope sc).names.lookup x = some .cell) && decide (scope.names.lookup x = some .cell)))) then
      .lc (xs.map fun x => g.N.idxOf x) (rI it) (.c (.bl true)) (rF (relS scope sc) elt) else .bad
    | none => .bad)
  | _ => .bad
def cRows (g : Cfg) (k : Nat) (sc : Scope) (e : Expr) : ME := match k with
  | 0 => .bad
  | k + 1 => match e with
    | .ListComp elt gs scope _ => cLcR g sc (cI g k sc) (fun sc' e => cFrR g sc' (cE g k sc') (cA g k sc') e) elt gs scope
    | _ => .bad
def cSet (g : Cfg) (own : Nat → Nat) (sc : Scope) (rE : Expr → ME) (rA : List Expr → MEs) (rR : Expr → ME) (x : Str) (e : Expr) : MS := if !locN g sc x then .bad else
  if own (g.N.idxOf x) = 0 then (if noSD e then .set (g.N.idxOf x) (rE e) else .bad)
  else if own (g.N.idxOf x) = 1 then (if isDic0 e then .dnw (g.N.idxOf x) (decide (own (2000 + g.N.idxOf x) = 9)) else if isLc e then .set (g.N.idxOf x) (rE e) else .set (g.N.idxOf x) (cFr g sc rE rA e))
  else if isNil e then .set (g.N.idxOf x) (.lst .nil) else if isLc e then .set (g.N.idxOf x) (rR e) else .bad
def isPop : Expr → Option Str
  | .Call (.Attribute (.Name x _) m apos) [] [] pos => if m = "pop" ∧ (apos.endLine == pos.line) = true then some x else none
  | _ => none
def cUnp (g : Cfg) (own : Nat → Nat) (sc : Scope) (rE : Expr → ME) (tg e : Expr) : MS := match tgNames tg with
  | some xs => if xs.all (fun x => locN g sc x && decide (own (g.N.idxOf x) = 0)) then (match isPop e with
    | some x => if okNm g sc x && decide (own (g.N.idxOf x) = 1) then .popu (xs.map fun x => g.N.idxOf x) (g.N.idxOf x) else .bad
    | none => if noComp e && noTup e then (match xs with | [_, _, _, _] => .unl (xs.map fun x => g.N.idxOf x) (rE e) | _ => .unp (xs.map fun x => g.N.idxOf x) (rE e)) else .bad) else .bad
  | none => .bad
/-- targets other than a name -/
def cTgt (g : Cfg) (own : Nat → Nat) (sc : Scope) (rE : Expr → ME) (tg e : Expr) : MS := match tg with
  | .Subscript (.Name x _) k _ => if okNm g sc x && decide (own (g.N.idxOf x) = 1) && !isSlice k && noComp e then (if own (2000 + g.N.idxOf x) = 0 then .sto (g.N.idxOf x) (rE k) (rE e) else .dpt (g.N.idxOf x) (rE k) (rE e)) else .bad
  | .Subscript (.Subscript (.Name x _) k _) l _ => if okNm g sc x && decide (2 ≤ own (g.N.idxOf x)) && !isSlice k && !isSlice l && noComp e then .st2 (g.N.idxOf x) (rE k) (rE l) (rE e) else .bad
  | .Tuple [.Subscript (.Name x _) k _, .Subscript (.Name y _) l _] _ _ => (match e with
    | .Tuple [a, b] _ _ => if okNm g sc x && decide (y = x) && decide (own (g.N.idxOf x) = 1) && !isSlice k && !isSlice l && noStar a && noStar b then .swp (g.N.idxOf x) (rE k) (rE l) (rE a) (rE b) else .bad
    | _ => .bad)
  | .Tuple [.Name x px, .Name y py] kt pt => (match e with
    | .Tuple [a, b] _ _ => if locN g sc x && locN g sc y && decide (g.N.idxOf x ≠ g.N.idxOf y) && decide (own (g.N.idxOf x) = 0) && decide (own (g.N.idxOf y) = 0) && parOk sc x y px py a b then .par (g.N.idxOf x) (g.N.idxOf y) (rE a) (rE b) else if locN g sc x && locN g sc y && decide (own (g.N.idxOf x) = 0) && decide (own (g.N.idxOf y) = 0) && decide (sc.names.lookup x = some .cell) then .unp [g.N.idxOf x, g.N.idxOf y] (rE e) else .bad
    | e => cUnp g own sc rE (.Tuple [.Name x px, .Name y py] kt pt) e)
  | .Tuple ts kt pt => cUnp g own sc rE (.Tuple ts kt pt) e
  | _ => .bad
def cTry (g : Cfg) (own : Nat → Nat) (sc : Scope) (rB : List Stmt → MB) (body : List Stmt) (hs : List ExceptHandler) : MS := match hs with
  | [.ExceptHandler (some (.Name x _)) (some n) [.Assign [.Name y _] (.Name n' _) _] _] =>
    if x = "RuleError" ∧ n' = n ∧ g.N[g.N.idxOf y]? = some y ∧ g.N[g.N.idxOf n]? = some n ∧ g.N.idxOf n ≠ g.N.idxOf y ∧ sc.names.lookup y = some .local ∧ sc.names.lookup n = some .local ∧ ("RuleError" : Str) ∈ g.ec ∧
      sc.names.lookup ("RuleError" : Str) = some .globalImplicit ∧ (n == ("__debug__" : Str)) = false ∧ (n == ("__classdict__" : Str)) = false ∧ own (g.N.idxOf y) = 0 then .try_ (rB body) (g.N.idxOf y) (g.N.idxOf n) else .bad
  | _ => .bad
def isNm : Expr → Option Str
  | .Name y _ => some y
  | _ => none
/-- x.append(..), x.extend(..), x.insert(.., ..) -/
def cMut (g : Cfg) (own : Nat → Nat) (sc : Scope) (rE : Expr → ME) (x m : Str) (es : List Expr) : MS := match es with
  | [e] => if m = "append" then (if x = "town" then (match e with
        | .Constant (.int i) _ _ => if i = 0 ∧ own (g.N.idxOf x) = 0 then .tick (g.N.idxOf x) else .bad
        | _ => .bad)
      else if own (g.N.idxOf x) = 1 then (if noStar e then .app (g.N.idxOf x) (rE e) else .bad)
      else if 2 ≤ own (g.N.idxOf x) then (match isNm e with
        | some y => if okNm g sc y ∧ own (g.N.idxOf y) = 1 then .mv2 (g.N.idxOf x) (g.N.idxOf y) else .bad
        | none => .bad) else .bad)
    else if m = "extend" then (if own (g.N.idxOf x) = 1 ∧ noStar e = true then .ext (g.N.idxOf x) (rE e) else .bad)
    else if m = "update" then (match isNm e with
      | some y => if okNm g sc y ∧ own (g.N.idxOf x) = 1 ∧ own (g.N.idxOf y) = 1 then .dup (g.N.idxOf x) (g.N.idxOf y) else .bad
      | none => .bad) else .bad
  | [k, e] => if m = "insert" ∧ own (g.N.idxOf x) = 1 ∧ noStar k = true ∧ noStar e = true then .ins (g.N.idxOf x) (rE k) (rE e) else .bad
  | _ => .bad
def cExp (g : Cfg) (own : Nat → Nat) (sc : Scope) (rE : Expr → ME) (e : Expr) : MS := match e with
  | .Call (.Attribute (.Name x _) m apos) es [] pos => if okNm g sc x ∧ (apos.endLine == pos.line) = true then cMut g own sc rE x m es else .bad
  | e => if noComp e then .ex (rE e) else .bad
def cFor (g : Cfg) (own : Nat → Nat) (sc : Scope) (rI : Expr → MI) (rB : List Stmt → MB) (tg it : Expr) (b : List Stmt) : MS := match tgNames tg with
  | some xs => if xs.all (fun x => locN g sc x && decide (own (g.N.idxOf x) = 0)) && !isSetE it then .for_ (xs.map fun x => g.N.idxOf x) (rI it) (rB b) else .bad
  | none => .bad
def cRais (g : Cfg) (sc : Scope) (e : Expr) : MS := match e with
  | .Call (.Name x _) [.Constant (.str _) _ _] [] _ => if x ∈ g.ec ∧ sc.names.lookup x = some .globalImplicit ∧ (x == ("__debug__" : Str)) = false then .rais x else .bad
  | _ => .bad
/-- defs that tell lists, of things without any -/
def newLs (f : Str) : Bool := (["parts", "fewest", "idle", "units", "noughts", "power_row", "kept_ones", "leadings", "turns", "image", "first_against", "made_rows"] : List Str).contains f
def glC (sc : Scope) (f : Str) (es : List Expr) : Bool := es.all noStar && !es.isEmpty && decide (sc.names.lookup f = some .globalImplicit) && !(f == ("__debug__" : Str)) && !isSpoil f
def isFreC : Expr → Bool
  | .Call (.Name f _) _ _ _ => freN f
  | _ => false
/-- a comprehension of new things -/
def cLcD (g : Cfg) (sc : Scope) (rI : Expr → MI) (rF : Scope → Expr → MD) (elt : Expr) (gs : List Comprehension) (scope : Scope) : MD := match gs with
  | [⟨tg, it, [], 0⟩] => (match tgNames tg with
    | some xs => if blkC g.N sc scope (xs.map fun x => (x, g.N.idxOf x)) && !isSetE it && xs.all (fun x => decide (g.N[g.N.idxOf x]? = some x) && (isLocal (relS scope sc) x || (decide ((relS scope sc).names.lookup x = some .cell) && decide (scope.names.lookup x = some .cell)))) then
      .lc (xs.map fun x => g.N.idxOf x) (rI it) (rF (relS scope sc) elt) else .bad
    | none => .bad)
  | _ => .bad
/-- all its lists are new -/
def cD (g : Cfg) : Nat → Scope → Expr → MD
  | 0, _, _ => .bad
  | k + 1, sc, e => match e with
    | .Call (.Name f _) es [] _ => if f = "tuple" then (match es with
        | [a] => if isGl g sc "tuple" && noStar a then .tupD (cD g k sc a) else .bad
        | _ => .bad)
      else if freN f then (if glC sc f es then .callD f (cA g k sc es) else .bad) else if newLs f then (if glC sc f es then .callN f (cA g k sc es) else .bad) else .chk (cE g k sc e)
    | .ListComp elt gs scope _ => if isFreC elt then cLcD g sc (cI g k sc) (cD g k) elt gs scope else .nls (cE g k sc e)
    | .IfExp t a b _ => .ite (cT g k sc t) (cD g k sc a) (cD g k sc b)
    | .List [a] _ => if noStar a then .lst1 (cD g k sc a) else .bad
    | .Subscript a (.Constant (.int i) _ _) _ => .idx (cD g k sc a) i
    | e => .chk (cE g k sc e)
def okD (own : Nat → Nat) : MD → Bool
  | .bad => true
  | .chk e => okE own e
  | .callD f as => freN f && okA own as
  | .callN _ as => okA own as
  | .nls e => okE own e && decide (2 ≤ lev own e)
  | .lc tg it e => okI own it && okD (minus own tg) e
  | .tupD e => okD own e
  | .idx e _ => okD own e
  | .lst1 e => okD own e
  | .ite t a b => okE own t && okD own a && okD own b
/-- return x -/
def cRetF (g : Cfg) (own : Nat → Nat) (k : Nat) (sc : Scope) (e : Expr) : MS := match e with
  | .Name x _ => if okNm g sc x = true ∧ own (g.N.idxOf x) = 1 then .retO (g.N.idxOf x) else .retD (cD g k sc e)
  | e => .retD (cD g k sc e)
/-- a thing told, copied, and changed -/
def splAt (g : Cfg) (own : Nat → Nat) (sc : Scope) (ss : List Stmt) : Option (Str × Str × Expr × List Stmt) := match ss with
  | .Assign [.Name x _] e _ :: .Assign [.Name y _] (.Call (.Name f1 _) [.Name x1 _] [] _) _ :: .Expr (.Call (.Name f2 _) [.Name x2 _] [] _) _ :: rest =>
    if f1 = "_law_copy" ∧ f2 = "_law_spoil" ∧ x1 = x ∧ x2 = x ∧ okNm g sc x = true ∧ locN g sc y = true ∧ g.N.idxOf x ≠ g.N.idxOf y ∧ own (g.N.idxOf y) = 0 ∧ noComp e = true ∧ sc.names.lookup ("_law_copy" : Str) = some .globalImplicit ∧ sc.names.lookup ("_law_spoil" : Str) = some .globalImplicit then some (x, y, e, rest) else none
  | _ => none
/-- a deed's end is told -/
def tldAt (g : Cfg) (own : Nat → Nat) (sc : Scope) (ss : List Stmt) : Option (Str × Str × Str × Expr × Str × Expr) := match ss with
  | [.Try [.Assign [.Name x _] e _] [.ExceptHandler (some (.Name re _)) (some n) [.Assign [.Name y _] (.Name n1 _) _] _] [] [] _, .Return (some (.IfExp (.Compare (.Name y1 _) [.Is] [.Constant .none _ _] _) (.Tuple [.Constant (.str cst) _ _, .Name x1 _] _ _) r _)) _] =>
    if re = "RuleError" ∧ n1 = n ∧ y1 = y ∧ x1 = x ∧ okNm g sc x = true ∧ okNm g sc y = true ∧ okNm g sc n = true ∧ g.N.idxOf n ≠ g.N.idxOf y ∧ g.N.idxOf x ≠ g.N.idxOf y ∧ sc.names.lookup x = some .local ∧ sc.names.lookup y = some .local ∧ sc.names.lookup n = some .local ∧ ("RuleError" : Str) ∈ g.ec ∧
      sc.names.lookup ("RuleError" : Str) = some .globalImplicit ∧ own (g.N.idxOf y) = 0 ∧ noComp e = true ∧ own 1000 = 7 then some (x, y, n, e, cst, r) else none
  | _ => none
/-- statements without blocks -/
def cFl (g : Cfg) (own : Nat → Nat) (k : Nat) (sc : Scope) (s : Stmt) : MS := match s with
  | .Assign [.Name x _] e _ => cSet g own sc (cE g k sc) (cA g k sc) (cRows g k sc) x e
  | .Assign [tg] e _ => cTgt g own sc (cE g k sc) tg e
  | .Expr e _ => cExp g own sc (cE g k sc) e
  | .Return (some e) _ => if own 1000 = 7 then cRetF g own k sc e else .ret (cE g k sc e)
  | .Return none _ => .ret (.c .non)
  | _ => .bad
def fzAt (fz : List (Nat × List Nat)) : Stmt → List Nat
  | .Assign _ _ pos => (fz.lookup pos.line).getD []
  | .Expr _ pos => (fz.lookup pos.line).getD []
  | .Return _ pos => (fz.lookup pos.line).getD []
  | _ => []
/-- what is given up ahead of a row, and lives on -/
def gvAt (fz : List (Nat × List Nat)) : Stmt → List Nat
  | .Assign _ _ pos => (fz.lookup (pos.line + 100000)).getD []
  | _ => []
def fzF (fz : List (Nat × List Nat)) (pos : Pos) : List Nat := (fz.lookup (pos.line + 200000)).getD []
/-- the dict that is locked for a row -/
def fdAt (fz : List (Nat × List Nat)) : Stmt → Option Nat
  | .Assign _ _ pos => ((fz.lookup (pos.line + 300000)).getD []).head?
  | .Expr _ pos => ((fz.lookup (pos.line + 300000)).getD []).head?
  | .Return _ pos => ((fz.lookup (pos.line + 300000)).getD []).head?
  | _ => none
def wrap (js : List Nat) (s : MS) : MS := if js.isEmpty then s else .frz js s
mutual
def cS (g : Cfg) (own : Nat → Nat) (fz : List (Nat × List Nat)) : Nat → Scope → Stmt → MS
  | 0, _, _ => .bad
  | k + 1, sc, s => match s with
    | .If t a b _ => .if_ (cT g k sc t) (cB g own fz k sc a) (cB g own fz k sc b)
    | .For tg it b [] pos => wrap (fzF fz pos) (cFor g (minus own (fzF fz pos)) sc (cI g k sc) (cB g (minus own (fzF fz pos)) fz k sc) tg it b)
    | .While t b [] _ => .whl turnsW (cT g k sc t) (cB g own fz k sc b)
    | .Raise (some e) none _ => cRais g sc e
    | .Try b hs [] [] _ => cTry g own sc (cB g own fz k sc) b hs
    | s => match fdAt fz s with
      | none => wrap (fzAt fz s) (cFl g (minus own (fzAt fz s)) k sc s)
      | some i => if own i = 1 ∧ (1000 : Nat) ≠ i then .frd i (wrap (fzAt fz s) (cFl g (minus (minus own [i]) (fzAt fz s)) k sc s)) else .bad
def cB (g : Cfg) (own : Nat → Nat) (fz : List (Nat × List Nat)) : Nat → Scope → List Stmt → MB
  | 0, _, _ => .cons .bad .nil
  | k + 1, sc, ss => match ss with
    | [] => .nil
    | s :: ss => match splAt g own sc (s :: ss) with
      | some (x, y, e, rest) => .spl (g.N.idxOf x) (g.N.idxOf y) (cD g k sc e) (cB g own fz k sc rest)
      | none => match tldAt g own sc (s :: ss) with
        | some (x, y, n, e, cst, r) => .tld (g.N.idxOf x) (g.N.idxOf y) (g.N.idxOf n) (cD g k sc e) cst (cE g k sc r)
        | none => if (gvAt fz s).isEmpty then .cons (cS g own fz k sc s) (cB g own fz k sc ss) else .giv (gvAt fz s) (.cons (cS g (minus own (gvAt fz s)) fz k sc s) (cB g (minus own (gvAt fz s)) fz k sc ss))
end
def okFr (own : Nat → Nat) : ME → Bool
  | .lst as => okA own as && levA own as
  | .p1 .toL a => okE own a && decide (1 ≤ lev own a)
  | .p1 .srt a => okE own a && decide (1 ≤ lev own a)
  | .p1 .rngL a => okE own a
  | .p1 .sset a => okE own a
  | .p1 .rev a => okE own a && decide (1 ≤ lev own a)
  | .lc tg it t e => okE own (.lc tg it t e) && decide (2 ≤ lev own (.lc tg it t e))
  | .bad => true
  | _ => false
def okFrR (own : Nat → Nat) : ME → Bool
  | .p1 .toL a => okE own a && decide (1 ≤ lev own a)
  | .p2 .mul (.lst as) b => okA own as && levA own as && okE own b
  | .bad => true
  | _ => false
def okRw (own : Nat → Nat) : ME → Bool
  | .lst .nil => true
  | .lc tg it _ e => okI own it && okFrR (minus own tg) e
  | .bad => true
  | _ => false
def isRetF (own : Nat → Nat) : ME → Bool
  | .c .non => true
  | _ => false
mutual
def okS (own : Nat → Nat) : MS → Bool
  | .set i e => if own i = 0 then okE own e && decide (2 ≤ lev own e) else if own i = 1 then okFr own e else okRw own e
  | .ex e => okE own e
  | .if_ t a b => okE own t && okB own a && okB own b
  | .for_ _ it b => okI own it && decide (2 ≤ levI own it) && okB own b
  | .whl _ t b => okE own t && okB own b
  | .ret e => okE own e && (decide (own 1000 ≠ 7) || isRetF own e)
  | .try_ b _ _ => okB own b
  | .rais _ => true
  | .tick _ => true
  | .bad => true
  | .app _ e => okE own e && decide (2 ≤ lev own e)
  | .ext _ e => okE own e && decide (1 ≤ lev own e)
  | .ins _ k e => okE own k && okE own e && decide (2 ≤ lev own e)
  | .sto _ k e => okE own k && okE own e && decide (2 ≤ lev own e)
  | .swp _ k l a b => okE own k && okE own l && okE own a && okE own b && decide (2 ≤ lev own a) && decide (2 ≤ lev own b)
  | .st2 _ k l e => okE own k && okE own l && okE own e && decide (2 ≤ lev own e)
  | .mv2 _ _ => true
  | .popu _ _ => true
  | .unp _ e => okE own e && decide (2 ≤ lev own e)
  | .par _ _ a b => okE own a && okE own b && decide (2 ≤ lev own a) && decide (2 ≤ lev own b)
  | .frz js s => !js.contains 1000 && okS (minus own js) s
  | .retD e => okD own e
  | .retO _ => true
  | .dnw _ _ => true
  | .dpt _ k e => okE own k && okE own e && decide (2 ≤ lev own e)
  | .dup _ _ => true
  | .unl _ e => okE own e && decide (1 ≤ lev own e)
  | .frd i s => okS (minus own [i]) s
  | .mov _ _ => false
def okB (own : Nat → Nat) : MB → Bool
  | .nil => true
  | .cons s b => okS own s && okB own b
  | .giv js b => !js.contains 1000 && okB (minus own js) b
  | .spl _ _ e b => okD own e && okB own b
  | .tld _ _ _ e _ r => okD own e && okE own r
end
section
variable {g : Cfg} {X : Cx} {z : Fx} {W : WX} {L : Nat} {S : Sub} {T : Tab} {sc : Scope}
theorem ss_setBad {i : Nat} {st : Stmt} : SS X z W S T (.set i .bad) st := fun _ _ _ _ _ _ _ _ _ h => h.elim
theorem soundN (c : Ctx g X z W L S T sc) (k : Nat) (e : Expr) (hn : noSD e = true) (h : okE z.own (cE g k sc e) = true) : SN X z W S T (cE g k sc e) e := by
  cases e with
  | ListComp elt gs scope q =>
    refine .inl ⟨elt, gs, scope, q, rfl, ?_⟩
    cases k with
    | zero => simp only [cE]; exact sl_bad
    | succ k =>
      obtain ⟨iE, iT, iA, iI⟩ := soundE g L S T k
      simp only [cE] at h ⊢
      exact cLc_ok c (iI sc X z W c) iT iE h
  | SetComp a b d e => simp [noSD] at hn
  | DictComp a b d e f => simp [noSD] at hn
  | _ => exact .inr ⟨rfl, (soundE g L S T k).1 sc X z W c _ h⟩
theorem Ctx.loc (c : Ctx g X z W L S T sc) {x : Str} (h : locN g sc x = true) : X.N[g.N.idxOf x]? = some x ∧ Loc X.env.scope x := by
  unfold locN locB at h
  simp only [Bool.and_eq_true, decide_eq_true_eq] at h
  refine ⟨by rw [c.N]; exact h.1, ?_⟩
  unfold Loc
  rw [c.sc]
  have h2 := h.2
  split at h2
  · rename_i q; exact .inl q
  · rename_i q; exact .inr q
  · cases h2
theorem Ctx.nm (c : Ctx g X z W L S T sc) {x : Str} (h : okNm g sc x = true) : X.N[g.N.idxOf x]? = some x ∧ Vis X.env.scope x ∧ (x == ("__debug__" : Str)) = false ∧ (x == ("__classdict__" : Str)) = false := by
  unfold okNm at h
  simp only [Bool.and_eq_true, Bool.not_eq_true'] at h
  obtain ⟨h1, h2⟩ := c.loc h.1.1
  exact ⟨h1, by rcases h2 with q | q; exact .inl q; exact .inr (.inl q), h.1.2, h.2⟩
theorem Ctx.th (c : Ctx g X z W L S T sc) (o : Nat → Nat) : Ctx g X (z.th o) W L S T sc := ⟨c.good, c.N, c.sc, c.mf, c.tab⟩
theorem plainIx {e : Expr} (h : isSlice e = false) : PlainIx e := by
  intro a b
  cases e <;> first | rfl | (simp [isSlice] at h)
theorem cFr_ok (c : Ctx g X z W L S T sc) {rE : Expr → ME} {rA : List Expr → MEs} {e : Expr} (jE : ∀ e, okE z.own (rE e) = true → SE X z W S T (rE e) e) (jA : ∀ es, es.all noStar = true → okA z.own (rA es) = true → SA X z W S T (rA es) es) (hn : isLc e = false) (h : okFr z.own (cFr g sc rE rA e) = true) :
    (noComp e = true ∧ SF X z W S T (cFr g sc rE rA e) e) ∨ cFr g sc rE rA e = .bad := by
  generalize hm : cFr g sc rE rA e = m at h ⊢
  unfold cFr at hm
  split at hm
  · split at hm
    · rename_i hc
      subst hm
      simp only [okFr, Bool.and_eq_true] at h
      exact .inl ⟨rfl, sf_lst (jA _ hc h.1) h.2⟩
    · subst hm; exact .inr rfl
  · split at hm
    · rename_i hc
      obtain ⟨rfl, rfl, h1, h2, h3⟩ := hc
      subst hm
      obtain ⟨a1, a2⟩ := isGl_ok c h1
      obtain ⟨b1, b2⟩ := isGl_ok c h2
      exact .inl ⟨rfl, sf_rngL c.good.calm a1 a2 b1 b2 h3 (jE _ h)⟩
    · split at hm
      · rename_i hc
        obtain ⟨rfl, rfl, h1, h2, h3⟩ := hc
        subst hm
        obtain ⟨a1, a2⟩ := isGl_ok c h1
        obtain ⟨b1, b2⟩ := isGl_ok c h2
        exact .inl ⟨rfl, sf_sset c.good.calm c.good.K a1 a2 b1 b2 h3 (jE _ h)⟩
      · subst hm; exact .inr rfl
  · split at hm
    · rename_i hc
      obtain ⟨rfl, h1, h3⟩ := hc
      subst hm
      simp only [okFr, Bool.and_eq_true, decide_eq_true_eq] at h
      obtain ⟨a1, a2⟩ := isGl_ok c h1
      refine .inl ⟨rfl, fun σ H F G env n Q er p => ?_⟩
      refine (pe_callTy (T := "list") wCR a1 a2 (by decide +kernel) (pa_cons (peW _) pa_nil (starEach_cons [] _ h3)) (by decide) (by decide) (starEach_cons [] _ h3) rfl).w (SE.useF (jE _ h.1) er p fun d n1 v H1 F1 G1 _ s1 er1 r1 h1 => ?_)
      obtain ⟨r, hr, hq⟩ := h1.lift
      exact pf_toL c.good.calm er1 r1 h.2 hr hq
    · split at hm
      · rename_i hc
        obtain ⟨rfl, h1, h3⟩ := hc
        subst hm
        simp only [okFr, Bool.and_eq_true, decide_eq_true_eq] at h
        obtain ⟨a1, a2⟩ := isGl_ok c h1
        refine .inl ⟨rfl, fun σ H F G env n Q er p => ?_⟩
        refine (pe_callB (id := "sorted") wCR a1 a2 (by decide +kernel) (pa_cons (peW _) pa_nil (starEach_cons [] _ h3)) (by decide) (by decide) (starEach_cons [] _ h3) rfl).w (SE.useF (jE _ h.1) er p fun d n1 v H1 F1 G1 _ s1 er1 r1 h1 => ?_)
        obtain ⟨r, hr, hq⟩ := h1.lift
        exact pf_srt c.good.u4 er1 r1 h.2 hr hq
      · subst hm; exact .inr rfl
  · subst hm
    simp only [okFr, Bool.and_eq_true, decide_eq_true_eq] at h
    exact .inl ⟨rfl, sf_rev (jE _ h.1) h.2⟩
  · subst hm; exact .inr rfl
theorem cFrR_lst {rE : Expr → ME} {rA : List Expr → MEs} {e : Expr} : ∀ env n d n', evE S T (cFrR g sc rE rA e) env n = .ok d n' → ∃ ds, d = .lst ds := by
  intro env n d n' q
  generalize hm : cFrR g sc rE rA e = m at q
  have hbad : m = .bad → ∃ ds, d = .lst ds := fun z => by
    subst z
    simp only [evE] at q; cases q
  unfold cFrR at hm
  split at hm
  · split at hm
    · subst hm
      simp only [evE] at q
      cases h4 : evE S T (rE _) env n with
      | ok d1 n1 =>
        rw [h4, Out.bind_ok] at q
        cases d1 with
        | str x =>
          have q : Out.lift (if x.length ≤ line then some (Mv.D.lst (x.cps.toList.map one)) else none) n1 = .ok d n' := q
          split at q <;> cases q
          exact ⟨_, rfl⟩
        | lst xs => cases q; exact ⟨_, rfl⟩
        | tup xs => cases q; exact ⟨_, rfl⟩
        | _ => cases q
      | ex x n1 => rw [h4] at q; cases q
      | bad => rw [h4] at q; cases q
    · exact hbad hm.symm
  · rename_i es p1 b p2
    split at hm
    · subst hm
      have q : ((evE S T (.lst (rA es)) env n).bind fun d n => (evE S T (rE b) env n).bind fun e n => .lift (sem2 .mul n d e) n) = .ok d n' := by simpa only [evE] using q
      cases h4 : evE S T (.lst (rA es)) env n with
      | ok d1 n1 =>
        obtain ⟨ds, rfl⟩ := lst_is h4
        rw [h4, Out.bind_ok] at q
        cases h5 : evE S T (rE b) env n1 with
        | ok d2 n2 =>
          rw [h5, Out.bind_ok] at q
          cases d2 with
          | int k =>
            have q : Out.lift (if k < 2 ^ 63 ∧ -(2 ^ 63) ≤ k ∧ ds.length * k.toNat ≤ line then some (Mv.D.lst (List.replicate k.toNat ds).flatten) else none) n2 = .ok d n' := q
            split at q <;> cases q
            exact ⟨_, rfl⟩
          | _ => cases q
        | ex x n2 => rw [h5] at q; cases q
        | bad => rw [h5] at q; cases q
      | ex x n1 => rw [h4] at q; cases q
      | bad => rw [h4] at q; cases q
    · exact hbad hm.symm
  · exact hbad hm.symm
theorem cFrR_ok (c : Ctx g X z W L S T sc) {rE : Expr → ME} {rA : List Expr → MEs} {e : Expr} (jE : ∀ e, okE z.own (rE e) = true → SE X z W S T (rE e) e) (jA : ∀ es, es.all noStar = true → okA z.own (rA es) = true → SA X z W S T (rA es) es) (h : okFrR z.own (cFrR g sc rE rA e) = true) :
    SF X z W S T (cFrR g sc rE rA e) e := by
  generalize hm : cFrR g sc rE rA e = m at h ⊢
  have hbad : m = .bad → SF X z W S T m e := fun q => by
    subst q
    exact fun σ H F G env n Q er p => by simp only [evE] at p; exact p.elim
  unfold cFrR at hm
  split at hm
  · split at hm
    · rename_i hc
      obtain ⟨rfl, h1, h3⟩ := hc
      subst hm
      simp only [okFrR, Bool.and_eq_true, decide_eq_true_eq] at h
      obtain ⟨a1, a2⟩ := isGl_ok c h1
      intro σ H F G env n Q er p
      refine (pe_callTy (T := "list") wCR a1 a2 (by decide +kernel) (pa_cons (peW _) pa_nil (starEach_cons [] _ h3)) (by decide) (by decide) (starEach_cons [] _ h3) rfl).w (SE.useF (jE _ h.1) er (by simpa only [evE] using p) fun d n1 v H1 F1 G1 _ s1 er1 r1 h1 => ?_)
      obtain ⟨r, hr, hq⟩ := h1.lift
      exact pf_toL c.good.calm er1 r1 h.2 hr hq
    · exact hbad hm.symm
  · rename_i es p1 b p2
    split at hm
    · rename_i hs
      subst hm
      simp only [okFrR, Bool.and_eq_true] at h
      exact sf_mul (se_lst (jA es hs h.1.1)) (by simp [lev, h.1.2]) (jE _ h.2)
    · exact hbad hm.symm
  · exact hbad hm.symm
theorem cRows_ok (c : Ctx g X z W L S T sc) {k : Nat} {e : Expr} (hlc : isLc e = true) (h : okRw z.own (cRows g k sc e) = true) : (∃ elt gs scope q, e = .ListComp elt gs scope q ∧ SR X z W S T (cRows g k sc e) e) ∨ cRows g k sc e = .bad := by
  cases e with
  | ListComp elt gs scope pos =>
    cases k with
    | zero => exact .inr rfl
    | succ k =>
      obtain ⟨iE, iT, iA, iI⟩ := soundE g L S T k
      show (∃ elt' gs' scope' q, _ = _ ∧ SR X z W S T (cLcR g sc (cI g k sc) (fun sc' e => cFrR g sc' (cE g k sc') (cA g k sc') e) elt gs scope) _) ∨ cLcR g sc (cI g k sc) (fun sc' e => cFrR g sc' (cE g k sc') (cA g k sc') e) elt gs scope = .bad
      have h : okRw z.own (cLcR g sc (cI g k sc) (fun sc' e => cFrR g sc' (cE g k sc') (cA g k sc') e) elt gs scope) = true := h
      generalize hm : cLcR g sc (cI g k sc) (fun sc' e => cFrR g sc' (cE g k sc') (cA g k sc') e) elt gs scope = m at h ⊢
      unfold cLcR at hm
      split at hm
      · rename_i tg it
        split at hm
        · rename_i xs hxs
          split at hm
          · rename_i hc
            refine .inl ⟨_, _, _, _, rfl, ?_⟩
            simp only [Bool.and_eq_true, List.all_eq_true, Bool.or_eq_true, decide_eq_true_eq] at hc
            obtain ⟨⟨hblk, hset⟩, hnm⟩ := hc
            have ok : BlkOk X.N X.env.scope scope (xs.map fun x => (x, g.N.idxOf x)) := by
              rw [c.N, c.sc]
              exact blkOk_by hblk
            have hs : ∀ x, foldedSetIterable it X.env x = pure x := fun x => by
              cases it <;> first | rfl | (simp [isSetE] at hset)
            have how : (xs.map fun x => (x, g.N.idxOf x)).map (·.2) = xs.map fun x => g.N.idxOf x := by simp
            have hg : ∀ (s : Shared) (H : Hp) (C : Addr) (cl : List (Str × Addr)) (fp : List Addr), PG (X.blk s H scope (compEnvC scope cl C X.env) fp) tg (gOf X.K (xs.map fun x => g.N.idxOf x)) := fun s H C cl fp => by
              have cb := c.blk H [] s H scope C cl fp
              have q := pg_of (Y := X.blk s H scope (compEnvC scope cl C X.env) fp) hxs cb.good.calm cb.good.nd fun x hx => ?_
              · rw [show (X.blk s H scope (compEnvC scope cl C X.env) fp).N = g.N from c.N] at q
                exact q
              · obtain ⟨h1, h2⟩ := hnm x hx
                rw [cb.N, cb.sc]
                refine ⟨h1, ?_, ?_⟩
                · rcases h2 with h2 | h2
                  · exact .inl (of_decide_eq_true h2)
                  · exact .inr h2.1
                · rcases h2 with h2 | h2
                  · exact .inr (of_decide_eq_true h2)
                  · refine .inl ?_
                    show (scope.names.lookup x == some .cell) = true
                    rw [h2.2]; rfl
            subst hm
            simp only [okRw, Bool.and_eq_true] at h
            exact sr_lc c.good how ok (iI sc X z W c tg it h.1) hg (fun H0 s H C cl fp => cFrR_ok (c.blk H0 _ s H scope C cl fp) (iE _ _ _ _ (c.blk H0 _ s H scope C cl fp)) (iA _ _ _ _ (c.blk H0 _ s H scope C cl fp)) h.2) cFrR_lst hs
          · subst hm; exact .inr rfl
        · subst hm; exact .inr rfl
      · subst hm; exact .inr rfl
  | _ => simp [isLc] at hlc
theorem cSet_ok (c : Ctx g X z W L S T sc) (o : Own X) {k : Nat} {x : Str} {e : Expr} {p pos : Pos} (h : okS z.own (cSet g z.own sc (cE g k sc) (cA g k sc) (cRows g k sc) x e) = true) : SS X z W S T (cSet g z.own sc (cE g k sc) (cA g k sc) (cRows g k sc) x e) (.Assign [.Name x p] e pos) := by
  generalize hm : cSet g z.own sc (cE g k sc) (cA g k sc) (cRows g k sc) x e = m at h ⊢
  obtain ⟨iE, iT, iA, iI⟩ := soundE g L S T k
  unfold cSet at hm
  split at hm
  · subst hm; exact ss_bad
  rename_i hl
  obtain ⟨h1, h2⟩ := c.loc (x := x) (by simpa using hl)
  split at hm
  · rename_i h0
    split at hm
    · rename_i hn
      subst hm
      simp only [okS, h0, if_true, Bool.and_eq_true, decide_eq_true_eq] at h
      exact ss_set (soundN c k e hn h.1) c.good.nd h1 h2 (.inl (o.fn x)) h0 h.2
    · subst hm; exact ss_bad
  · rename_i h0
    split at hm
    · rename_i h1'
      split at hm
      · rename_i hd0
        subst hm
        cases e with
        | Dict ks vs q =>
          cases ks with
          | nil => cases vs with
            | nil => exact ss_dnw c.good.nd h1 h2 (.inl (o.fn x)) h1'
            | cons _ _ => simp [isDic0] at hd0
          | cons _ _ => simp [isDic0] at hd0
        | _ => simp [isDic0] at hd0
      split at hm
      · rename_i hlc
        subst hm
        simp only [okS, h1'] at h
        cases e with
        | ListComp elt gs scope q =>
          cases k with
          | zero => simp only [cE]; exact ss_setBad
          | succ k =>
            have hs := soundN c (k + 1) (.ListComp elt gs scope q) rfl
            generalize hm2 : cE g (k + 1) sc (.ListComp elt gs scope q) = me at h hs ⊢
            cases me with
            | lc tg it t e =>
              simp only [okFr, Bool.and_eq_true, decide_eq_true_eq] at h
              have h : okE z.own (.lc tg it t e) = true ∧ 2 ≤ lev z.own (.lc tg it t e) := by simpa using h
              rcases hs h.1 with ⟨_, _, _, _, e1, sl⟩ | ⟨hc, _⟩
              · exact ss_setO (.inl ⟨_, _, _, _, e1, sl, h.2⟩) c.good.nd h1 h2 (.inl (o.fn x)) h1'
              · simp [noComp] at hc
            | bad => exact ss_setBad
            | _ =>
              exfalso
              simp only [cE] at hm2
              unfold cLc at hm2
              split at hm2
              · split at hm2
                · split at hm2
                  · split at hm2 <;> cases hm2
                  · cases hm2
                · cases hm2
              · cases hm2
        | _ => simp [isLc] at hlc
      · rename_i hlc
        subst hm
        simp only [okS, h1'] at h
        have h : okFr z.own (cFr g sc (cE g k sc) (cA g k sc) e) = true := by simpa using h
        rcases cFr_ok c (iE sc X z W c) (iA sc X z W c) (by simpa using hlc) h with q | q
        · exact ss_setO (.inr q) c.good.nd h1 h2 (.inl (o.fn x)) h1'
        · rw [q]; exact ss_setBad
    · rename_i h1'
      split at hm
      · rename_i hn
        subst hm
        cases e with
        | List es q =>
          cases es with
          | nil => exact ss_set2 c.good.nd h1 h2 (.inl (o.fn x)) (by omega)
          | cons _ _ => simp [isNil] at hn
        | _ => simp [isNil] at hn
      · split at hm
        · rename_i hlc
          subst hm
          have h : okRw z.own (cRows g k sc e) = true := by simpa [okS, h0, h1'] using h
          rcases cRows_ok c hlc h with ⟨elt, gs, scope, q, e1, hr⟩ | q
          · exact ss_setR e1 hr c.good.nd h1 h2 (.inl (o.fn x)) (by omega)
          · rw [q]; exact ss_setBad
        · subst hm; exact ss_bad
theorem sb_giv {js : List Nat} {b : MB} {sts : List Stmt} (h7 : 1000 ∉ js) (hs : SB X (z.th (minus z.own js)) W S T b sts) : SB X z W S T (.giv js b) sts := fun σ H F G env n D er en h => by
  refine hs σ H _ G env n D (er.th (less_minus _ js)) (EN.th er en) ?_
  simp only [evB] at h
  cases h1 : evB S T b env n with
  | nx env' n' => rw [h1] at h; exact fun σ' H' F' G' er' en' => h σ' H' F' G' er'.unth ⟨en'.f0, en'.nw⟩
  | rt d n' => rw [h1] at h; exact fun v H' G' rt r fr => h v H' G' ⟨rt.f0, rt.gh, rt.nw, rt.h0, rt.tw⟩ r fun q => fr (show minus z.own js 1000 = 7 by rw [minus_out h7]; exact q)
  | ex c n' env' => rw [h1] at h; exact fun σ' H' F' G' er' en' => h σ' H' F' G' er'.unth ⟨en'.f0, en'.nw⟩
  | bad => rw [h1] at h; exact h
theorem Ctx.re (c : Ctx g X z W L S T sc) (F0 : Hp) : Ctx g X (z.re F0) W L S T sc := ⟨c.good, c.N, c.sc, c.mf, c.tab⟩
theorem Ctx.tr (c : Ctx g X z W L S T sc) {W' : WX} {pn : List (Addr × Obj)} {xe : Value → Shared → Prop} (tk : Takes (X.tr pn xe) W') (po : PassesOwn (model X.prog X.w) X.A X.env xe) : Ctx g (X.tr pn xe) z W' L S T sc := ⟨⟨c.good.calm, c.good.K, c.good.nd, c.good.room, po, tk⟩, c.N, c.sc, c.mf, c.tab⟩
theorem Own.tr (o : Own X) (pn : List (Addr × Obj)) (xe : Value → Shared → Prop) : Own (X.tr pn xe) := ⟨o.stk, o.fr, o.ex, o.fn, o.bk⟩
end
section
variable {g : Cfg} {X : Cx} {z : Fx} {W : WX} {L : Nat} {S : Sub} {T : Tab} {sc : Scope}
theorem pg_lst4 {Y : Cx} {N : List Str} {xa xb xc xd : Str} {ts : List Expr} {kt : Nat} {pt : Pos} (ht : tgNames (.Tuple ts kt pt) = some [xa, xb, xc, xd]) (hc : Y.calm = true) (hN : Y.N.Nodup) (hx : ∀ x ∈ [xa, xb, xc, xd], Y.N[N.idxOf x]? = some x ∧ Loc Y.env.scope x ∧ (Y.fn x = true ∨ Y.env.scope.names.lookup x = some .local)) :
    PG Y (.Tuple ts kt pt) (gLst Y.K 4 (gCons (gName (N.idxOf xa)) (gCons (gName (N.idxOf xb)) (gCons (gName (N.idxOf xc)) (gCons (gName (N.idxOf xd)) gNil))))) := by
  unfold tgNames at ht
  split at ht
  · rename_i heq; cases heq
  · cases ht
  · cases ht
  · rename_i heq
    cases heq
    cases ht
    obtain ⟨a1, a2, a3⟩ := hx xa (by simp)
    obtain ⟨b1, b2, b3⟩ := hx xb (by simp)
    obtain ⟨c1, c2, c3⟩ := hx xc (by simp)
    obtain ⟨d1, d2, d3⟩ := hx xd (by simp)
    exact pg_lst hc (pgs_cons (pg_name hN a1 a2 a3) (pgs_cons (pg_name hN b1 b2 b3) (pgs_cons (pg_name hN c1 c2 c3) (pgs_cons (pg_name hN d1 d2 d3) pgs_nil rfl) rfl) rfl) rfl) rfl rfl
  · cases ht
theorem cUnp_ok (c : Ctx g X z W L S T sc) (o : Own X) {rE : Expr → ME} {ts : List Expr} {kt : Nat} {pt : Pos} {e : Expr} {pos : Pos} (jE : ∀ e, okE z.own (rE e) = true → SE X z W S T (rE e) e) (h : okS z.own (cUnp g z.own sc rE (.Tuple ts kt pt) e) = true) : SS X z W S T (cUnp g z.own sc rE (.Tuple ts kt pt) e) (.Assign [.Tuple ts kt pt] e pos) := by
  generalize hm : cUnp g z.own sc rE (.Tuple ts kt pt) e = m at h ⊢
  unfold cUnp at hm
  split at hm
  · rename_i xs hxs
    split at hm
    · rename_i hc
      simp only [List.all_eq_true, Bool.and_eq_true, decide_eq_true_eq] at hc
      have q := pg_of (Y := X) hxs c.good.calm c.good.nd fun x hx => by
        obtain ⟨h1, h2⟩ := c.loc (hc x hx).1
        exact ⟨by rw [c.N]; rw [c.N] at h1; exact h1, h2, .inl (o.fn x)⟩
      rw [c.N] at q
      have hoi : ∀ j ∈ xs.map (fun x => g.N.idxOf x), z.own j = 0 := fun j hj => by
        obtain ⟨x, hx, rfl⟩ := List.mem_map.mp hj
        exact (hc x hx).2
      split at hm
      · rename_i x hp
        split at hm
        · rename_i hx
          simp only [Bool.and_eq_true, decide_eq_true_eq] at hx
          subst hm
          obtain ⟨n1, n2, n3, n4⟩ := c.nm hx.1
          unfold isPop at hp
          split at hp
          · split at hp
            · rename_i hq
              cases hp
              obtain ⟨rfl, hline⟩ := hq
              exact ss_popu c n1 n2 n3 n4 hline hx.2 q hoi
            · cases hp
          · cases hp
        · subst hm; exact ss_bad
      · split at hm
        · rename_i hx
          simp only [Bool.and_eq_true] at hx
          split at hm
          · rename_i xa xb xc xd
            subst hm
            simp only [okS, Bool.and_eq_true, decide_eq_true_eq] at h
            refine ss_unl c hx.1 hx.2 (pg_lst4 hxs c.good.calm c.good.nd fun x hx => ?_) (hoi _ (by simp)) (hoi _ (by simp)) (hoi _ (by simp)) (hoi _ (by simp)) (jE _ h.1) h.2
            obtain ⟨h1, h2⟩ := c.loc (hc x hx).1
            exact ⟨h1, h2, .inl (o.fn x)⟩
          · subst hm
            simp only [okS, Bool.and_eq_true, decide_eq_true_eq] at h
            exact ss_unp c hx.1 hx.2 q hoi (jE _ h.1) h.2
        · subst hm; exact ss_bad
    · subst hm; exact ss_bad
  · subst hm; exact ss_bad
theorem cTgt_ok (c : Ctx g X z W L S T sc) (o : Own X) {rE : Expr → ME} {tg e : Expr} {pos : Pos} (jE : ∀ e, okE z.own (rE e) = true → SE X z W S T (rE e) e) (h : okS z.own (cTgt g z.own sc rE tg e) = true) : SS X z W S T (cTgt g z.own sc rE tg e) (.Assign [tg] e pos) := by
  generalize hm : cTgt g z.own sc rE tg e = m at h ⊢
  unfold cTgt at hm
  split at hm
  · split at hm
    · rename_i hc
      split at hm
      · subst hm
        simp only [Bool.and_eq_true, Bool.not_eq_true', decide_eq_true_eq] at hc
        simp only [okS, Bool.and_eq_true, decide_eq_true_eq] at h
        obtain ⟨n1, n2, n3, n4⟩ := c.nm hc.1.1.1
        exact ss_sto n1 n2 n3 n4 hc.1.2 hc.2 hc.1.1.2 (jE _ h.1.1) (jE _ h.1.2) h.2
      · subst hm
        simp only [Bool.and_eq_true, Bool.not_eq_true', decide_eq_true_eq] at hc
        simp only [okS, Bool.and_eq_true, decide_eq_true_eq] at h
        obtain ⟨n1, n2, n3, n4⟩ := c.nm hc.1.1.1
        exact ss_dpt (by have := c.good.u; omega) n1 n2 n3 n4 hc.2 hc.1.1.2 (jE _ h.1.1) (jE _ h.1.2) h.2
    · subst hm; exact ss_bad
  · split at hm
    · rename_i hc
      subst hm
      simp only [Bool.and_eq_true, Bool.not_eq_true', decide_eq_true_eq] at hc
      simp only [okS, Bool.and_eq_true, decide_eq_true_eq] at h
      obtain ⟨n1, n2, n3, n4⟩ := c.nm hc.1.1.1.1
      exact ss_st2 n1 n2 n3 n4 (plainIx hc.1.1.2) hc.1.2 hc.2 hc.1.1.1.2 (jE _ h.1.1.1) (jE _ h.1.1.2) (jE _ h.1.2) h.2
    · subst hm; exact ss_bad
  · split at hm
    · split at hm
      · rename_i hc
        subst hm
        simp only [Bool.and_eq_true, Bool.not_eq_true', decide_eq_true_eq] at hc
        simp only [okS, Bool.and_eq_true, decide_eq_true_eq] at h
        obtain ⟨⟨⟨⟨⟨⟨hx, hy⟩, ho⟩, hk⟩, hl⟩, ha⟩, hb⟩ := hc
        obtain ⟨n1, n2, n3, n4⟩ := c.nm hx
        subst hy
        exact ss_swp c.good.calm n1 n2 n3 n4 hk hl ha hb ho (jE _ h.1.1.1.1.1) (jE _ h.1.1.1.1.2) (jE _ h.1.1.1.2) (jE _ h.1.1.2) h.1.2 h.2
      · subst hm; exact ss_bad
    · subst hm; exact ss_bad
  · rename_i x px y py kt pt
    split at hm
    · rename_i a b k2 pt2
      split at hm
      · rename_i hc
        subst hm
        simp only [Bool.and_eq_true, decide_eq_true_eq] at hc
        simp only [okS, Bool.and_eq_true, decide_eq_true_eq] at h
        obtain ⟨⟨⟨⟨⟨hx, hy⟩, hn⟩, ox⟩, oy⟩, hp⟩ := hc
        have n1 := (c.loc hx).1
        have n2 := (c.loc hy).1
        exact ss_par c.good.calm c.good.nd n1 n2 hn o.bk (by rw [c.sc]; exact hp) ox oy (jE _ h.1.1.1) (jE _ h.1.1.2) h.1.2 h.2
      · split at hm
        · rename_i hc
          subst hm
          simp only [Bool.and_eq_true, decide_eq_true_eq] at hc
          simp only [okS, Bool.and_eq_true, decide_eq_true_eq] at h
          obtain ⟨⟨⟨⟨hx, hy⟩, ox⟩, oy⟩, hcell⟩ := hc
          have q := pg_of (Y := X) (xs := [x, y]) (tg := .Tuple [.Name x px, .Name y py] kt pt) rfl c.good.calm c.good.nd fun w hw => by
            have hw : w = x ∨ w = y := by simpa using hw
            rcases hw with rfl | rfl
            · obtain ⟨h1, h2⟩ := c.loc hx
              exact ⟨by rw [c.N]; rw [c.N] at h1; exact h1, h2, .inl (o.fn _)⟩
            · obtain ⟨h1, h2⟩ := c.loc hy
              exact ⟨by rw [c.N]; rw [c.N] at h1; exact h1, h2, .inl (o.fn _)⟩
          rw [c.N] at q
          exact ss_unpC c hcell q (fun j hj => by
            have hj : j = g.N.idxOf x ∨ j = g.N.idxOf y := by simpa using hj
            rcases hj with rfl | rfl
            · exact ox
            · exact oy) (jE _ h.1) h.2
        · subst hm; exact ss_bad
    · subst hm; exact cUnp_ok c o jE h
  · subst hm; exact cUnp_ok c o jE h
  · subst hm; exact ss_bad
theorem cExp_ok (c : Ctx g X z W L S T sc) {rE : Expr → ME} {e : Expr} {pos : Pos} (jE : ∀ e, okE z.own (rE e) = true → SE X z W S T (rE e) e) (h : okS z.own (cExp g z.own sc rE e) = true) : SS X z W S T (cExp g z.own sc rE e) (.Expr e pos) := by
  generalize hm : cExp g z.own sc rE e = m at h ⊢
  unfold cExp at hm
  split at hm
  · split at hm
    · rename_i hc
      obtain ⟨n1, n2, n3, n4⟩ := c.nm hc.1
      have hline := hc.2
      unfold cMut at hm
      split at hm
      · split at hm
        · rename_i hap
          subst hap
          split at hm
          · rename_i ht
            subst ht
            split at hm
            · split at hm
              · rename_i h0
                obtain ⟨rfl, h0⟩ := h0
                subst hm
                exact ss_tick n1 n2 n3 n4 hline h0
              · subst hm; exact ss_bad
            · subst hm; exact ss_bad
          · split at hm
            · rename_i h1
              split at hm
              · rename_i hn
                subst hm
                simp only [okS, Bool.and_eq_true, decide_eq_true_eq] at h
                exact ss_app n1 n2 n3 n4 hline hn h1 (jE _ h.1) h.2
              · subst hm; exact ss_bad
            · split at hm
              · rename_i h2
                split at hm
                · rename_i y hy
                  split at hm
                  · rename_i hq
                    subst hm
                    obtain ⟨m1, m2, m3, m4⟩ := c.nm hq.1
                    unfold isNm at hy
                    split at hy
                    · cases hy
                      exact ss_mv2 n1 n2 n3 n4 hline m1 m2 m3 m4 h2 hq.2
                    · cases hy
                  · subst hm; exact ss_bad
                · subst hm; exact ss_bad
              · subst hm; exact ss_bad
        · split at hm
          · rename_i hex
            subst hex
            split at hm
            · rename_i hq
              subst hm
              simp only [okS, Bool.and_eq_true, decide_eq_true_eq] at h
              exact ss_ext n1 n2 n3 n4 hline hq.2 hq.1 (jE _ h.1) h.2
            · subst hm; exact ss_bad
          · split at hm
            · rename_i hup
              subst hup
              split at hm
              · rename_i y hy
                split at hm
                · rename_i hq
                  subst hm
                  obtain ⟨m1, m2, m3, m4⟩ := c.nm hq.1
                  unfold isNm at hy
                  split at hy
                  · cases hy
                    exact ss_dup (by have := c.good.u; omega) n1 n2 n3 n4 hline m1 m2 m3 m4 hq.2.1 hq.2.2
                  · cases hy
                · subst hm; exact ss_bad
              · subst hm; exact ss_bad
            · subst hm; exact ss_bad
      · split at hm
        · rename_i hq
          obtain ⟨rfl, h1, h2, h3⟩ := hq
          subst hm
          simp only [okS, Bool.and_eq_true, decide_eq_true_eq] at h
          exact ss_ins n1 n2 n3 n4 hline h2 h3 h1 (jE _ h.1.1) (jE _ h.1.2) h.2
        · subst hm; exact ss_bad
      · subst hm; exact ss_bad
    · subst hm; exact ss_bad
  · split at hm
    · rename_i hc
      subst hm
      refine ss_ex ?_ (jE _ h)
      cases e <;> first | rfl | (simp [noComp] at hc)
    · subst hm; exact ss_bad
theorem splAt_some {own : Nat → Nat} {ss : List Stmt} {x y : Str} {e : Expr} {rest : List Stmt} (h : splAt g own sc ss = some (x, y, e, rest)) : ∃ p1 p2 p3 p4 p5 p6 p7 p8 p9 p10 p11, ss = .Assign [.Name x p1] e p2 :: .Assign [.Name y p3] (.Call (.Name "_law_copy" p4) [.Name x p5] [] p6) p7 :: .Expr (.Call (.Name "_law_spoil" p8) [.Name x p9] [] p10) p11 :: rest ∧
    okNm g sc x = true ∧ locN g sc y = true ∧ g.N.idxOf x ≠ g.N.idxOf y ∧ own (g.N.idxOf y) = 0 ∧ noComp e = true ∧ sc.names.lookup ("_law_copy" : Str) = some .globalImplicit ∧ sc.names.lookup ("_law_spoil" : Str) = some .globalImplicit := by
  unfold splAt at h
  split at h
  · split at h
    · rename_i hc
      obtain ⟨rfl, rfl, rfl, rfl, hc⟩ := hc
      cases h
      exact ⟨_, _, _, _, _, _, _, _, _, _, _, rfl, hc⟩
    · cases h
  · cases h
theorem tldAt_some {own : Nat → Nat} {ss : List Stmt} {x y n : Str} {e : Expr} {cst : Str} {r : Expr} (h : tldAt g own sc ss = some (x, y, n, e, cst, r)) : ∃ p1 p2 np py pm sp pos' pos p3 j0 p4 p5 j1 p6 p7 kt p8 p9 p10, ss = [.Try [.Assign [.Name x p1] e p2] [.ExceptHandler (some (.Name "RuleError" np)) (some n) [.Assign [.Name y py] (.Name n pm) sp] pos'] [] [] pos,
      .Return (some (.IfExp (.Compare (.Name y p3) [.Is] [.Constant .none j0 p4] p5) (.Tuple [.Constant (.str cst) j1 p6, .Name x p7] kt p8) r p9)) p10] ∧
    okNm g sc x = true ∧ okNm g sc y = true ∧ okNm g sc n = true ∧ g.N.idxOf n ≠ g.N.idxOf y ∧ g.N.idxOf x ≠ g.N.idxOf y ∧ sc.names.lookup x = some .local ∧ sc.names.lookup y = some .local ∧ sc.names.lookup n = some .local ∧ ("RuleError" : Str) ∈ g.ec ∧
      sc.names.lookup ("RuleError" : Str) = some .globalImplicit ∧ own (g.N.idxOf y) = 0 ∧ noComp e = true ∧ own 1000 = 7 := by
  unfold tldAt at h
  split at h
  · split at h
    · rename_i hc
      obtain ⟨rfl, rfl, rfl, rfl, hc⟩ := hc
      cases h
      exact ⟨_, _, _, _, _, _, _, _, _, _, _, _, _, _, _, _, _, _, _, rfl, hc⟩
    · cases h
  · cases h
theorem cD_ok : ∀ (k : Nat) (sc : Scope) (X : Cx) (z : Fx) (W : WX), Ctx g X z W L S T sc → ∀ e, okD z.own (cD g k sc e) = true → SD X z W S T (cD g k sc e) e
  | 0, sc, X, z, W, c, e, h => by simp only [cD]; exact sd_bad
  | k + 1, sc, X, z, W, c, e, h => by
    obtain ⟨iE, iT, iA, iI⟩ := soundE g L S T k
    have ih := cD_ok k
    generalize hm : cD g (k + 1) sc e = m at h ⊢
    unfold cD at hm
    split at hm
    · rename_i f pf es pos
      split at hm
      · rename_i hf
        subst hf
        split at hm
        · split at hm
          · rename_i hc
            simp only [Bool.and_eq_true] at hc
            subst hm
            obtain ⟨a1, a2⟩ := isGl_ok c hc.1
            exact sd_tupD a1 a2 hc.2 (ih sc X z W c _ h)
          · subst hm; exact sd_bad
        · subst hm; exact sd_bad
      · split at hm
        · rename_i hf
          split at hm
          · rename_i hg
            subst hm
            unfold glC at hg
            simp only [Bool.and_eq_true, decide_eq_true_eq] at hg
            simp only [okD, Bool.and_eq_true] at h
            cases es with
            | nil => simp at hg
            | cons e0 es => exact sd_callD hf c.good c.tab (c.gl hg.1.1.2) (by simpa using hg.1.2) (by simpa using hg.2) hg.1.1.1.1 (iA _ _ _ _ c _ hg.1.1.1.1 h.2)
          · subst hm; exact sd_bad
        · split at hm
          · split at hm
            · rename_i hg
              subst hm
              unfold glC at hg
              simp only [Bool.and_eq_true, decide_eq_true_eq] at hg
              simp only [okD] at h
              cases es with
              | nil => simp at hg
              | cons e0 es => exact sd_callN c.good c.tab (c.gl hg.1.1.2) (by simpa using hg.1.2) (by simpa using hg.2) hg.1.1.1.1 (iA _ _ _ _ c _ hg.1.1.1.1 h)
            · subst hm; exact sd_bad
          · subst hm
            exact sd_chk (iE _ _ _ _ c _ h)
    · rename_i elt gs scope pos
      split at hm
      · unfold cLcD at hm
        split at hm
        · rename_i tg it
          split at hm
          · rename_i xs hxs
            split at hm
            · rename_i hc
              simp only [Bool.and_eq_true, List.all_eq_true, Bool.or_eq_true, decide_eq_true_eq] at hc
              obtain ⟨⟨hblk, hset⟩, hnm⟩ := hc
              have ok : BlkOk X.N X.env.scope scope (xs.map fun x => (x, g.N.idxOf x)) := by
                rw [c.N, c.sc]
                exact blkOk_by hblk
              have hs : ∀ x, foldedSetIterable it X.env x = pure x := fun x => by
                cases it <;> first | rfl | (simp [isSetE] at hset)
              have how : (xs.map fun x => (x, g.N.idxOf x)).map (·.2) = xs.map fun x => g.N.idxOf x := by simp
              have hg : ∀ (s : Shared) (H : Hp) (C : Addr) (cl : List (Str × Addr)) (fp : List Addr), PG (X.blk s H scope (compEnvC scope cl C X.env) fp) tg (gOf X.K (xs.map fun x => g.N.idxOf x)) := fun s H C cl fp => by
                have cb := c.blk H [] s H scope C cl fp
                have q := pg_of (Y := X.blk s H scope (compEnvC scope cl C X.env) fp) hxs cb.good.calm cb.good.nd fun x hx => ?_
                · rw [show (X.blk s H scope (compEnvC scope cl C X.env) fp).N = g.N from c.N] at q
                  exact q
                · obtain ⟨h1, h2⟩ := hnm x hx
                  rw [cb.N, cb.sc]
                  refine ⟨h1, ?_, ?_⟩
                  · rcases h2 with h2 | h2
                    · exact .inl (of_decide_eq_true h2)
                    · exact .inr h2.1
                  · rcases h2 with h2 | h2
                    · exact .inr (of_decide_eq_true h2)
                    · refine .inl ?_
                      show (scope.names.lookup x == some .cell) = true
                      rw [h2.2]; rfl
              subst hm
              simp only [okD, Bool.and_eq_true] at h
              exact sd_lc c.good how ok (iI sc X z W c tg it h.1) hg (fun H0 s H C cl fp => ih _ _ _ _ (c.blk H0 _ s H scope C cl fp) elt h.2) hs
            · subst hm; exact sd_bad
          · subst hm; exact sd_bad
        · subst hm; exact sd_bad
      · subst hm
        simp only [okD, Bool.and_eq_true, decide_eq_true_eq] at h
        refine sd_nls fun σ H F G env n Q er p => ?_
        rcases soundN c k _ rfl h.1 with ⟨_, _, _, _, _, t, h1, _, _, h4⟩ | ⟨hn, _⟩
        · exact h1.w (h4 σ H F G env n Q h.2 er p)
        · simp [noComp] at hn
    · subst hm
      simp only [okD, Bool.and_eq_true] at h
      exact sd_ite (iT _ _ _ _ c _ h.1.1) (ih _ _ _ _ c _ h.1.2) (ih _ _ _ _ c _ h.2)
    · split at hm
      · rename_i hn
        subst hm
        exact sd_lst1 hn (ih _ _ _ _ c _ h)
      · subst hm; exact sd_bad
    · subst hm
      exact sd_idx (ih _ _ _ _ c _ h)
    · subst hm
      exact sd_chk (iE _ _ _ _ c _ h)
theorem cFl_ok (c : Ctx g X z W L S T sc) (o : Own X) {k : Nat} {s : Stmt} (h : okS z.own (cFl g z.own k sc s) = true) : SS X z W S T (cFl g z.own k sc s) s := by
  obtain ⟨iE, iT, iA, iI⟩ := soundE g L S T k
  have jE := iE sc X z W c
  generalize hm : cFl g z.own k sc s = m at h ⊢
  unfold cFl at hm
  split at hm
  · subst hm; exact cSet_ok c o h
  · subst hm; exact cTgt_ok c o jE h
  · subst hm; exact cExp_ok c jE h
  · split at hm
    · rename_i h7
      unfold cRetF at hm
      split at hm
      · split at hm
        · rename_i hc
          subst hm
          obtain ⟨n1, n2, n3, n4⟩ := c.nm hc.1
          exact ss_retO n1 n2 n3 n4 hc.2
        · subst hm; exact ss_retD (cD_ok _ _ _ _ _ c _ h)
      · subst hm; exact ss_retD (cD_ok _ _ _ _ _ c _ h)
    · rename_i h7
      subst hm
      simp only [okS, Bool.and_eq_true] at h
      exact ss_ret h7 (jE _ h.1)
  · subst hm; exact ss_retN
  · subst hm; exact ss_bad
theorem wrap_ok (c : Ctx g X z W L S T sc) (o : Own X) {js : List Nat} {k : Nat} {s : Stmt} (h : okS z.own (wrap js (cFl g (minus z.own js) k sc s)) = true) : SS X z W S T (wrap js (cFl g (minus z.own js) k sc s)) s := by
  unfold wrap at h ⊢
  split
  · rename_i he
    rw [if_pos he] at h
    have e0 : minus z.own js = z.own := by
      rw [List.isEmpty_iff] at he
      subst he
      rfl
    rw [e0] at h ⊢
    exact cFl_ok c o h
  · rename_i he
    rw [if_neg he] at h
    simp only [okS, Bool.and_eq_true, Bool.not_eq_true', List.contains_eq_mem, decide_eq_false_iff_not] at h
    exact ss_frz h.1 (cFl_ok (z := z.th (minus z.own js)) (c.th _) o h.2)
theorem cFor_ok (c : Ctx g X z W L S T sc) (o : Own X) {fz : List (Nat × List Nat)} {k : Nat} {tg it : Expr} {b : List Stmt} {pos : Pos} (iB : ∀ sc X y W, Ctx g X y W L S T sc → Own X → y.own = z.own → ∀ ss, okB z.own (cB g z.own fz k sc ss) = true → SB X y W S T (cB g z.own fz k sc ss) ss)
    (h : okS z.own (cFor g z.own sc (cI g k sc) (cB g z.own fz k sc) tg it b) = true) : SS X z W S T (cFor g z.own sc (cI g k sc) (cB g z.own fz k sc) tg it b) (.For tg it b [] pos) := by
  obtain ⟨iE, iT, iA, iI⟩ := soundE g L S T k
  generalize hm : cFor g z.own sc (cI g k sc) (cB g z.own fz k sc) tg it b = m at h ⊢
  unfold cFor at hm
  split at hm
  · rename_i xs hxs
    split at hm
    · rename_i hc
      simp only [Bool.and_eq_true, List.all_eq_true, decide_eq_true_eq] at hc
      subst hm
      simp only [okS, Bool.and_eq_true, decide_eq_true_eq] at h
      refine ss_for c (iI sc X z W c tg it h.1.1) h.1.2 ?_ ?_ (fun F0 => iB sc X (z.re F0) W (c.re F0) o rfl b h.2) ?_
      · have q := pg_of (Y := X) hxs c.good.calm c.good.nd fun x hx => by
          obtain ⟨h1, h2⟩ := c.loc (hc.1 x hx).1
          exact ⟨by rw [c.N]; rw [c.N] at h1; exact h1, h2, .inl (o.fn x)⟩
        rw [c.N] at q
        exact q
      · intro i hi
        obtain ⟨x, hx, rfl⟩ := List.mem_map.mp hi
        exact (hc.1 x hx).2
      · intro x
        have := hc.2
        cases it <;> first | rfl | (simp [isSetE] at this)
    · subst hm; exact ss_bad
  · subst hm; exact ss_bad
end
/-- THE STATEMENTS -/
theorem soundS (g : Cfg) (fz : List (Nat × List Nat)) (L : Nat) (S : Sub) (T : Tab) : ∀ (k : Nat) (own : Nat → Nat),
    (∀ sc X z W, Ctx g X z W L S T sc → Own X → z.own = own → ∀ s, okS own (cS g own fz k sc s) = true → SS X z W S T (cS g own fz k sc s) s) ∧
    (∀ sc X z W, Ctx g X z W L S T sc → Own X → z.own = own → ∀ ss, okB own (cB g own fz k sc ss) = true → SB X z W S T (cB g own fz k sc ss) ss)
  | 0, own => by
    refine ⟨fun sc X z W c o ho s h => ?_, fun sc X z W c o ho s h => ?_⟩
    · simp only [cS]; exact ss_bad
    · simp only [cB]; exact fun _ _ _ _ _ _ _ _ _ q => q.elim
  | k + 1, own => by
    obtain ⟨iS, iB⟩ := soundS g fz L S T k own
    obtain ⟨iE, iT, iA, iI⟩ := soundE g L S T k
    refine ⟨fun sc X z W c o ho s h => ?_, fun sc X z W c o ho ss h => ?_⟩
    · subst ho
      have jE := iE sc X z W c
      have jT := iT sc X z W c
      have jB := iB sc X z W c o rfl
      generalize hm : cS g z.own fz (k + 1) sc s = m at h ⊢
      unfold cS at hm
      split at hm
      · subst hm
        simp only [okS, Bool.and_eq_true] at h
        exact ss_if (jT _ h.1.1) (jB _ h.1.2) (jB _ h.2)
      · rename_i tg it b pos
        generalize hjs : fzF fz pos = js at hm
        have iB2 := (soundS g fz L S T k (minus z.own js)).2
        unfold wrap at hm
        split at hm
        · rename_i he
          rw [List.isEmpty_iff] at he
          subst he
          subst hm
          exact cFor_ok c o iB h
        · subst hm
          simp only [okS, Bool.and_eq_true, Bool.not_eq_true', List.contains_eq_mem, decide_eq_false_iff_not] at h
          exact ss_frz h.1 (cFor_ok (z := z.th (minus z.own js)) (c.th _) o iB2 h.2)
      · subst hm
        simp only [okS, Bool.and_eq_true] at h
        exact ss_whl c (jT _ h.1) (jB _ h.2)
      · unfold cRais at hm
        split at hm
        · split at hm
          · rename_i hc
            subst hm
            exact ss_rais c hc.1 hc.2.1 hc.2.2
          · subst hm; exact ss_bad
        · subst hm; exact ss_bad
      · rename_i b hs pos
        unfold cTry at hm
        split at hm
        · split at hm
          · rename_i hc
            obtain ⟨rfl, rfl, h1, h2, h3, h4, h5, h6, h7, h8, h9, h10⟩ := hc
            subst hm
            exact ss_try c o (by rw [c.N]; exact h1) (by rw [c.N]; exact h2) h3 h4 h5 h6 h7 h8 h9 h10 fun W' pn xe tk po => iB sc _ z W' (c.tr tk po) (o.tr pn xe) rfl b h
          · subst hm; exact ss_bad
        · subst hm; exact ss_bad
      · split at hm
        · subst hm; exact wrap_ok c o h
        · rename_i i hi
          split at hm
          · rename_i hc
            subst hm
            simp only [okS] at h
            exact ss_frd hc.2 hc.1 (wrap_ok (z := z.th (minus z.own [i])) (c.th _) o h)
          · subst hm; exact ss_bad
    · cases ss with
      | nil => simp only [cB]; exact sb_nil
      | cons s ss =>
        subst ho
        cases hsp : splAt g z.own sc (s :: ss) with
        | some q =>
          obtain ⟨x, y, e, rest⟩ := q
          obtain ⟨_, _, _, _, _, _, _, _, _, _, _, hss, hx, hy, hne, hoy, hcm, hgc, hgs⟩ := splAt_some hsp
          simp only [cB, hsp, okB, Bool.and_eq_true] at h ⊢
          obtain ⟨n1, n2, n3, n4⟩ := c.nm hx
          have lx : Loc X.env.scope x := by
            unfold okNm at hx
            simp only [Bool.and_eq_true] at hx
            exact (c.loc hx.1.1).2
          obtain ⟨m1, m2⟩ := c.loc hy
          rw [hss]
          exact sb_spl c.good c.tab (c.gl hgc) (c.gl hgs) n1 lx (o.fn x) n3 n4 m1 m2 (o.fn y) hne hoy hcm (cD_ok _ _ _ _ _ c _ h.1) (iB sc X z W c o rfl rest h.2)
        | none =>
        cases htl : tldAt g z.own sc (s :: ss) with
        | some q =>
          obtain ⟨x, y, n, e, cst, r⟩ := q
          obtain ⟨_, _, _, _, _, _, _, _, _, _, _, _, _, _, _, _, _, _, _, hss, hx, hy, hn, hny, hxy, lx, ly, ln, hR, hG, hoy, hcm, h7⟩ := tldAt_some htl
          simp only [cB, hsp, htl, okB, Bool.and_eq_true] at h ⊢
          obtain ⟨n1, n2, n3, n4⟩ := c.nm hx
          obtain ⟨m1, m2, m3, m4⟩ := c.nm hy
          obtain ⟨k1, k2, k3, k4⟩ := c.nm hn
          rw [hss]
          exact sb_tld c o n1 m1 k1 hny hxy lx ly ln hR hG k3 k4 n3 n4 m3 m4 hoy hcm (fun W' pn xe tk po => cD_ok _ _ _ _ _ (c.tr tk po) _ h.1) (iE sc X z W c r h.2)
        | none =>
        simp only [cB, hsp, htl] at h ⊢
        split at h
        · rename_i hg
          rw [if_pos hg]
          simp only [okB, Bool.and_eq_true] at h
          exact sb_cons (iS sc X z W c o rfl s h.1) (iB sc X z W c o rfl ss h.2)
        · rename_i hg
          rw [if_neg hg]
          simp only [okB, Bool.and_eq_true, Bool.not_eq_true', List.contains_eq_mem, decide_eq_false_iff_not] at h
          obtain ⟨jS, jB⟩ := soundS g fz L S T k (minus z.own (gvAt fz s))
          exact sb_giv h.1 (sb_cons (jS sc X _ W (c.th _) o rfl s h.2.1) (jB sc X _ W (c.th _) o rfl ss h.2.2))
end L2.Ms

namespace L2.Ms
open PySem PySem.Spec PyProof.Rows Mv
/-! ### defs -/
theorem er_start {c : Cn} {own : Nat → Nat} {H F : Hp} {vs : List V} {ds : List D} {N : List Str} {n : Nat} (l : Le F H) (tw : ∀ a, c.pt = some a → H a = some (.lst (List.replicate n (.int 0))) ∧ F a = none) (r : RepL c F vs ds) (ho : ∀ i, i < ds.length → own i = 0) :
    ER { c with H0 := H, F0 := F, own := own } (start N vs) H F F (ds.map some ++ List.replicate (N.length - ds.length) none) n where
  fg := .rfl
  gh := l
  h0 := fun _ _ e _ => e
  tw := fun a q => ⟨(tw a q).1, (tw a q).2, by show H a ≠ none; rw [(tw a q).1]; simp⟩
  val := fun i d h hi => by
    have hlt : i < ds.length := by
      refine Classical.byContradiction fun q => ?_
      rw [List.getElem?_append_right (by simpa using q)] at h
      have := List.getElem?_eq_some_iff.mp h
      obtain ⟨h1, h2⟩ := this
      rw [List.getElem_replicate] at h2
      cases h2
    rw [List.getElem?_append_left (by simpa using hlt), List.getElem?_map] at h
    obtain ⟨d', h1, h2⟩ := Option.map_eq_some_iff.mp h
    cases h2
    obtain ⟨v, hv, rv⟩ := r.get h1
    refine ⟨v, ?_, rv⟩
    unfold start
    have hl := r.length
    rw [List.getElem?_append_left (by rw [List.length_map]; omega), List.getElem?_map, hv]
    rfl
  ow := fun i d h hi => by
    have hlt : i < ds.length := by
      refine Classical.byContradiction fun q => ?_
      rw [List.getElem?_append_right (by simpa using q)] at h
      obtain ⟨h1, h2⟩ := List.getElem?_eq_some_iff.mp h
      rw [List.getElem_replicate] at h2
      cases h2
    have hi : own i = 1 := hi
    rw [ho i hlt] at hi
    cases hi
  ow2 := fun i d h hi => by
    have hlt : i < ds.length := by
      refine Classical.byContradiction fun q => ?_
      rw [List.getElem?_append_right (by simpa using q)] at h
      obtain ⟨h1, h2⟩ := List.getElem?_eq_some_iff.mp h
      rw [List.getElem_replicate] at h2
      cases h2
    have hi : 2 ≤ own i := hi
    rw [ho i hlt] at hi
    cases hi
  dis := fun i j d e p p' a hne hi hj h1 h2 h3 h4 => by
    have hlt : i < ds.length := by
      refine Classical.byContradiction fun q => ?_
      rw [List.getElem?_append_right (by simpa using q)] at h1
      obtain ⟨a1, a2⟩ := List.getElem?_eq_some_iff.mp h1
      rw [List.getElem_replicate] at a2
      cases a2
    exact absurd (ho i hlt) hi
  len := by
    unfold start
    have hl := r.length
    simp [hl]
theorem rt_stepC {z : Fx} {H G : Hp} {n : Nat} (r : RT z H G n) : StepC z.pt z.H0 z.F0 H G n := ⟨r.f0, r.gh, r.nw, r.h0, r.tw⟩
theorem fn_sound {P : Program} {w : World} {K : PySem.W.Frag} {mg : Str → Option Value} {base : Heap} {L : Nat} {S : Sub} {T : Tab} {x : Str} {params : Arguments} {body : List Stmt} {scope : Scope} {f : Addr} {fd : FuncData} {g : Cfg} {own : Nat → Nat} {fz : List (Nat × List Nat)} {ps : List Str} {k : Nat} {b : MB}
    (F : FunD K x x params body scope [] [] f fd) (hf : mg x = some (.ref f)) (sc : FnScope g.N ps scope) (M : MF g.fr g.gc g.ec S K mg) (tab : TabOk P w K mg base L T) (hb : cB g own fz k scope body = b) (hok : okB own b = true) (ho : ∀ i, i < ps.length → own i = 0) (hfr : freN x = true → own 1000 = 7) (hsp : isSpoil x = false)
    (hbd : ∀ (kV doc pm : Value) (an : Option Addr) (cdv ct : Value) (us : List Value), us.length = ps.length → bindArgs (PySem.W.fnOf x x params body scope .none kV doc pm an cdv ct) ⟨us, []⟩ = pure (ps.zip us)) :
    FnG P w K mg base (L + 1) x ps.length (evF S T g.N.length b) := by
  refine ⟨f, fd, ps, ?_, hf, F.kp, F.bindsN hbd, rfl⟩
  rw [spG_of hsp]
  refine F.ok (N := g.N) sc (fun vs H Q E h => h.1) fun cdv A outer s H vs Q E hr h => ?_
  obtain ⟨hlen, pt, F0, n, ds, hle, htw, hrep, hpost⟩ := h
  let X : Cx := cxOf (L2.CX P w) P w K mg base g.N x scope f cdv A outer s H E
  let z : Fx := { K := K, pt := pt, H0 := H, F0 := F0, own := own }
  let W : WX := fun cls d _ H => E cls d H
  have gd : Good X z.toCn W L := ⟨rfl, rfl, sc.nd, hr, passes_of rfl, takes_of rfl rfl rfl rfl⟩
  have cx : Ctx g X z W L S T scope := ⟨gd, rfl, rfl, M, tab⟩
  have ow : Own X := ⟨rfl, rfl, rfl, fun _ => rfl, by
    show (if scope.kind.isAnnotationScope then ScopeKind.function else scope.kind) = .function
    rw [sc.kind]; rfl⟩
  have hdl : ds.length = ps.length := by rw [← hrep.length]; exact hlen
  have er : ER z (start g.N vs) H F0 F0 (ds.map some ++ List.replicate (g.N.length - ds.length) none) n := er_start (c := ⟨K, pt⟩) hle htw hrep fun i hi => ho i (by omega)
  have en : EN z F0 F0 := ⟨.rfl, fun a h => .inl h⟩
  refine ⟨wSs X body, pssW body, ?_⟩
  have sb := (soundS g fz L S T k own).2 scope X z W cx ow rfl body (by rw [hb]; exact hok)
  rw [hb] at sb
  refine sb _ _ _ _ _ _ _ er en ?_
  unfold evF at hpost
  cases h1 : evB S T b (ds.map some ++ List.replicate (g.N.length - ds.length) none) n with
  | nx env' n' =>
    rw [h1] at hpost
    exact fun σ' H' F' G' er' en' => hpost .non H' G' (rt_stepC (er'.rt en')) .non fun _ => newV_non
  | rt d n' =>
    rw [h1] at hpost
    exact fun v H' G' rt r fr => hpost v H' G' (rt_stepC rt) r fun q => fr (hfr q)
  | ex c n' env' =>
    rw [h1] at hpost
    exact fun σ' H' F' G' er' en' => hpost H' G' (rt_stepC (er'.rt en'))
  | bad =>
    rw [h1] at hpost
    exact hpost
theorem FnG.mono {P : Program} {w : World} {K : PySem.W.Frag} {mg : Str → Option Value} {base : Heap} {L M : Nat} {f : Str} {k : Nat} {run : List D → Nat → Out D} (h : FnG P w K mg base L f k run) (l : L ≤ M) : FnG P w K mg base M f k run := by
  obtain ⟨a, fd, ps, h1, h2⟩ := h.ex
  exact ⟨a, fd, ps, h1.mono l, h2⟩
/-! ### tables of defs -/
theorem tab_nil {P : Program} {w : World} {K : PySem.W.Frag} {mg : Str → Option Value} {base : Heap} {L : Nat} : TabOk P w K mg base L (Mv.tabOf []) := fun f k run h => by cases h
theorem tab_cons {P : Program} {w : World} {K : PySem.W.Frag} {mg : Str → Option Value} {base : Heap} {L M : Nat} {e : En} {r : List En} (h : FnG P w K mg base M e.f e.k e.run) (l : M ≤ L) (t : TabOk P w K mg base L (Mv.tabOf r)) : TabOk P w K mg base L (Mv.tabOf (e :: r)) := fun f k run q => by
  unfold Mv.tabOf at q
  split at q
  · rename_i hf
    subst hf
    cases q
    exact h.mono l
  · exact t f k run q
/-- the def that changes all lists -/
theorem spoil_at {P : Program} {w : World} {K : PySem.W.Frag} {mg : Str → Option Value} {base : Heap} {S : Sub} {params : Arguments} {body : List Stmt} {scope : Scope} {f : Addr} {fd : FuncData} {g : Cfg}
    (F : FunD K "_law_spoil" "_law_spoil" params body scope [] [] f fd) (hf : mg "_law_spoil" = some (.ref f)) (hN : g.N = (["thing", "one", "name"] : List Str)) (sc : FnScope g.N (["thing"] : List Str) scope) (M : MF g.fr g.gc g.ec S K mg) (hb : spB body = true)
    (hl : locB scope "thing" && locB scope "one" && isGl g scope "isinstance" && isGl g scope "list" && isGl g scope "tuple" && isGl g scope "dict" && decide (scope.names.lookup ("_law_spoil" : Str) = some .globalImplicit) = true)
    (hbd : ∀ (kV doc pm : Value) (an : Option Addr) (cdv ct : Value) (us : List Value), us.length = 1 → bindArgs (PySem.W.fnOf "_law_spoil" "_law_spoil" params body scope .none kV doc pm an cdv ct) ⟨us, []⟩ = pure ((["thing"] : List Str).zip us)) :
    ∀ m, FnOk P w K mg base (L2.CX P w) (m + 1) f fd ["thing"] (spSp m)
  | m => by
    have hrc : ∀ k', m = k' + 1 → FnOk P w K mg base (L2.CX P w) (k' + 1) f fd ["thing"] (spSp k') := fun k' e => by
      subst e
      exact spoil_at F hf hN sc M hb hl hbd k'
    refine F.ok (N := g.N) sc (fun vs H Q E h => ?_) fun cdv A outer s H vs Q E hr h => ?_
    · obtain ⟨v, _, _, _, rfl, _⟩ := h
      rfl
    obtain ⟨v, R, cc, M0, rfl, gd, hR, hM, hcc, hq⟩ := h
    let X : Cx := cxOf (L2.CX P w) P w K mg base g.N "_law_spoil" scope f cdv A outer s H E
    let z : Fx := { K := K, pt := none, H0 := H, F0 := H, own := fun _ => 0 }
    let W : WX := fun cls d _ H => E cls d H
    have gdd : Good X z.toCn W m := ⟨rfl, rfl, sc.nd, hr, passes_of rfl, takes_of rfl rfl rfl rfl⟩
    have cx : Ctx g X z W m S (Mv.tabOf []) scope := ⟨gdd, rfl, rfl, M, tab_nil⟩
    simp only [Bool.and_eq_true, decide_eq_true_eq] at hl
    obtain ⟨⟨⟨⟨⟨⟨l0, l1⟩, g1⟩, g2⟩, g3⟩, g4⟩, g5⟩ := hl
    have loc : ∀ x : Str, locB scope x = true → Loc X.env.scope x := fun x h => by
      show Loc scope x
      unfold locB at h
      unfold Loc
      split at h
      · rename_i q; exact .inl q
      · rename_i q; exact .inr q
      · cases h
    have so : SpOk X := ⟨by show g.N[0]? = _; rw [hN]; rfl, by show g.N[1]? = _; rw [hN]; rfl, loc _ l0, loc _ l1, isGl_ok cx g1, isGl_ok cx g2, isGl_ok cx g3, isGl_ok cx g4, cx.gl g5⟩
    refine ⟨wSs X body, pssW body, ?_⟩
    refine sp_body (X := X) (passes_of rfl) rfl sc.nd so rfl hb (fun k' ek => ?_) (by unfold start; rw [hN]; rfl) (by unfold start; rw [hN]; simp) gd hR hM hcc fun σ' H' ch => hq H' ch
    intro p q pos σ H Q u hu hs
    have hr' : Room (k' + 1) X.A := by rw [← ek]; exact hr
    refine (pe_callS (sp := spSp k') (hrc k' ek) hr' so.gs hf F.kp (F.bindsN (ps := ["thing"]) hbd) (fun σ => passAt gdd.tk σ) (pa_cons (pe_var so.i1 (by rcases so.l1 with w | w; exact .inl w; exact .inr (.inl w)) (by decide) (by decide)) pa_nil) (by decide)).w ⟨u, hu, hs (WE W σ)⟩
termination_by m => m
theorem spoil_sound {P : Program} {w : World} {K : PySem.W.Frag} {mg : Str → Option Value} {base : Heap} {S : Sub} {params : Arguments} {body : List Stmt} {scope : Scope} {f : Addr} {fd : FuncData} {g : Cfg}
    (F : FunD K "_law_spoil" "_law_spoil" params body scope [] [] f fd) (hf : mg "_law_spoil" = some (.ref f)) (hN : g.N = (["thing", "one", "name"] : List Str)) (sc : FnScope g.N (["thing"] : List Str) scope) (M : MF g.fr g.gc g.ec S K mg) (hb : spB body = true)
    (hl : locB scope "thing" && locB scope "one" && isGl g scope "isinstance" && isGl g scope "list" && isGl g scope "tuple" && isGl g scope "dict" && decide (scope.names.lookup ("_law_spoil" : Str) = some .globalImplicit) = true)
    (hbd : ∀ (kV doc pm : Value) (an : Option Addr) (cdv ct : Value) (us : List Value), us.length = 1 → bindArgs (PySem.W.fnOf "_law_spoil" "_law_spoil" params body scope .none kV doc pm an cdv ct) ⟨us, []⟩ = pure ((["thing"] : List Str).zip us)) :
    FnG P w K mg base (deep + 1) "_law_spoil" 1 (fun _ _ => .bad) := by
  refine ⟨f, fd, ["thing"], ?_, hf, F.kp, F.bindsN hbd, rfl⟩
  have e : spG K ("_law_spoil" : Str) 1 (fun _ _ => .bad) = spSp deep := by unfold spG; rw [if_pos (by decide)]
  rw [e]
  exact spoil_at F hf hN sc M hb hl hbd deep
/-! ### the law -/
theorem takesW0 {X : Cx} : Takes X W0 := fun _ _ x => by
  obtain ⟨_, _, _, _, _, _, _, _, _, _, _, _, _, _, _, _, q⟩ := x
  exact q.elim
theorem law_sound {P : Program} {w : World} {K : PySem.W.Frag} {mg : Str → Option Value} {base : Heap} {L : Nat} {S : Sub} {T : Tab} {x : Str} {params : Arguments} {rest : List Stmt} {scope : Scope} {f : Addr} {fd : FuncData} {g : Cfg} {own : Nat → Nat} {fz : List (Nat × List Nat)} {k : Nat} {b : MB} {p1 p2 p3 : Pos} {N' : List Str}
    (F : FunD K x x params (.Assign [.Name "town" p1] (.List [] p2) p3 :: rest) scope [] [] f fd) (hN : g.N = ("script" : Str) :: ("town" : Str) :: N') (sc : FnScope g.N ["script"] scope) (hl : locB scope "town" = true) (M : MF g.fr g.gc g.ec S K mg) (tab : TabOk P w K mg base L T) (hb : cB g own fz k scope rest = b) (hok : okB own b = true) (h0 : own 0 = 0) (h1 : own 1 = 0)
    (pure_law : ∀ ns : List Int, ns.length ≤ 63 → ∃ n, evB S T b (some (.scr ns) :: some .town :: List.replicate N'.length none) 0 = .rt (.bl true) n) :
    FnOk P w K mg base CX0 (L + 1) f fd ["script"] (fun vs H Q E => ∃ (a : Addr) (ns : List Int), vs = [.ref a] ∧ ns.length ≤ 63 ∧ SqL K H a (ns.map V.int) ∧ ∀ H', Q (.bl true) H') := by
  refine F.ok (N := g.N) sc (fun vs H Q E h => ?_) fun cdv A outer s H vs Q E hr h => ?_
  · obtain ⟨a, ns, rfl, _⟩ := h
    rfl
  obtain ⟨a, ns, rfl, hlen, hS, hQ⟩ := h
  let X : Cx := cxOf CX0 P w K mg base g.N x scope f cdv A outer s H E
  have hx : Loc X.env.scope "town" := by
    show Loc scope "town"
    unfold locB at hl
    unfold Loc
    split at hl
    · rename_i q; exact .inl q
    · rename_i q; exact .inr q
    · cases hl
  have hi : X.N[1]? = some ("town" : Str) := by show g.N[1]? = _; rw [hN]; rfl
  refine ⟨_, pss_cons (ps_set (i := 1) (show X.N.Nodup from sc.nd) hi hx (pe_lst pa_nil) rfl (.inl rfl)) (pssW rest), ?_⟩
  refine ⟨Nat.zero_le _, fun p hp => ?_⟩
  let H1 : Hp := upd H p (.lst [])
  let z : Fx := { K := K, pt := some p, H0 := H1, F0 := H, own := own }
  let W : WX := W0
  have gd : Good X z.toCn W L := ⟨rfl, rfl, sc.nd, hr, passes_of rfl, takesW0⟩
  have cx : Ctx g X z W L S T scope := ⟨gd, rfl, rfl, M, tab⟩
  have ow : Own X := ⟨rfl, rfl, rfl, fun _ => rfl, by
    show (if scope.kind.isAnnotationScope then ScopeKind.function else scope.kind) = .function
    rw [sc.kind]; rfl⟩
  have le : Le H H1 := Le.grow hp
  have eσ : (start g.N [V.ref a]).set 1 (some (.ref p)) = some (.ref a) :: some (.ref p) :: List.replicate N'.length none := by
    unfold start
    rw [hN]
    rfl
  have er : ER z (some (.ref a) :: some (.ref p) :: List.replicate N'.length none) H1 H H (some (.scr ns) :: some .town :: List.replicate N'.length none) 0 := by
    have out : ∀ (i : Nat) (d : Mv.D), (some (Mv.D.scr ns) :: some .town :: List.replicate N'.length none)[i]? = some (some d) → (i = 0 ∧ d = .scr ns) ∨ (i = 1 ∧ d = .town) := fun i d h => by
      match i, h with
      | 0, h => cases h; exact .inl ⟨rfl, rfl⟩
      | 1, h => cases h; exact .inr ⟨rfl, rfl⟩
      | i + 2, h =>
        obtain ⟨a1, a2⟩ := List.getElem?_eq_some_iff.mp h
        simp at a2
    refine ⟨.rfl, le, fun _ _ e _ => e, fun b q => ?_, fun i d h hi => ?_, fun i d h hi => ?_, fun i d h hi => ?_, fun i j d e q q' a' hne hi hj h1' h2 h3 h4 => ?_, by simp⟩
    · cases q
      exact ⟨upd_same, hp, by show H1 p ≠ none; rw [show H1 p = _ from upd_same]; simp⟩
    · rcases out i d h with ⟨rfl, rfl⟩ | ⟨rfl, rfl⟩
      · exact ⟨_, rfl, .scr hS⟩
      · exact ⟨_, rfl, .town rfl⟩
    · rcases out i d h with ⟨rfl, rfl⟩ | ⟨rfl, rfl⟩
      · rw [show own 0 = 1 from hi] at h0; cases h0
      · rw [show own 1 = 1 from hi] at h1; cases h1
    · rcases out i d h with ⟨rfl, rfl⟩ | ⟨rfl, rfl⟩
      · have hi : 2 ≤ own 0 := hi
        omega
      · have hi : 2 ≤ own 1 := hi
        omega
    · rcases out i d h1' with ⟨rfl, rfl⟩ | ⟨rfl, rfl⟩
      · exact absurd h0 hi
      · exact absurd h1 hi
  have en : EN z H H := ⟨.rfl, fun a h => .inl h⟩
  show wSs X rest _ ((start g.N [V.ref a]).set 1 (some (.ref p))) H1
  rw [eσ]
  have sb := (soundS g fz L S T k own).2 scope X z W cx ow rfl rest (by rw [hb]; exact hok)
  rw [hb] at sb
  refine sb _ _ _ _ _ _ _ er en ?_
  obtain ⟨n, hn⟩ := pure_law ns hlen
  rw [hn]
  intro v H' G' rt r _
  cases r
  exact hQ H'
end L2.Ms

namespace L2.Ms
open PySem PySem.Spec PyProof.Rows Mv
theorem fn_none {P : Program} {w : World} {K : PySem.W.Frag} {mg : Str → Option Value} {base : Heap} {L : Nat} {x : Str} {params : Arguments} {body : List Stmt} {scope : Scope} {f : Addr} {fd : FuncData} {ps : List Str}
    (F : FunD K x x params body scope [] [] f fd) (hf : mg x = some (.ref f)) (hsp : isSpoil x = false)
    (hbd : ∀ (kV doc pm : Value) (an : Option Addr) (cdv ct : Value) (us : List Value), us.length = ps.length → bindArgs (PySem.W.fnOf x x params body scope .none kV doc pm an cdv ct) ⟨us, []⟩ = pure (ps.zip us)) :
    FnG P w K mg base L x ps.length (fun _ _ => .bad) := by
  refine ⟨f, fd, ps, ?_, hf, F.kp, F.bindsN hbd, rfl⟩
  rw [spG_of hsp]
  refine ⟨fun vs H Q E h => h.1, fun A outer s H args us vs Q E _ _ _ _ h => ?_⟩
  obtain ⟨_, _, _, _, _, _, _, _, q⟩ := h
  exact q.elim
theorem self_sound {P : Program} {w : World} {K : PySem.W.Frag} {mg : Str → Option Value} {base : Heap} {L : Nat} {S : Sub} {r : List En} {x : Str} {params : Arguments} {body : List Stmt} {scope : Scope} {f : Addr} {fd : FuncData} {g : Cfg} {own : Nat → Nat} {fz : List (Nat × List Nat)} {ps : List Str} {k : Nat} {b : MB}
    (F : FunD K x x params body scope [] [] f fd) (hf : mg x = some (.ref f)) (sc : FnScope g.N ps scope) (M : MF g.fr g.gc g.ec S K mg) (tab : TabOk P w K mg base L (Mv.tabOf r)) (hb : cB g own fz k scope body = b) (hok : okB own b = true) (ho : ∀ i, i < ps.length → own i = 0) (hfr : freN x = true → own 1000 = 7) (hsp : isSpoil x = false)
    (hbd : ∀ (kV doc pm : Value) (an : Option Addr) (cdv ct : Value) (us : List Value), us.length = ps.length → bindArgs (PySem.W.fnOf x x params body scope .none kV doc pm an cdv ct) ⟨us, []⟩ = pure (ps.zip us)) :
    ∀ m, FnG P w K mg base (L + m) x ps.length (selfRun S x ps.length g.N.length b r m)
  | 0 => fn_none F hf hsp hbd
  | m + 1 => fn_sound F hf sc M (tab_cons (e := ⟨x, ps.length, selfRun S x ps.length g.N.length b r m⟩) (self_sound F hf sc M tab hb hok ho hfr hsp hbd m) (Nat.le_refl _) fun f k run q => (tab f k run q).mono (Nat.le_add_right _ _)) hb hok ho hfr hsp hbd
theorem fd_eq {K : PySem.W.Frag} {x : Str} {params : Arguments} {body : List Stmt} {scope : Scope} {f : Addr} {fd fd' : FuncData} (F : FunD K x x params body scope [] [] f fd) (F' : FunD K x x params body scope [] [] f fd') : fd = fd' := by
  obtain ⟨_, _, _, _, _, _, _, _, _, _, _, l1, _⟩ := F.ex
  obtain ⟨_, _, _, _, _, _, _, _, _, _, _, l2, _⟩ := F'.ex
  rw [l1] at l2
  cases l2
  rfl
/-! ### what the head tells -/
theorem excCB_ok {K : PySem.W.Frag} {D : Addr} (h : excCB K D = true) : ExcC K D := by
  unfold excCB at h
  simp only [Bool.and_eq_true, decide_eq_true_eq] at h
  obtain ⟨⟨⟨⟨⟨⟨⟨a, b⟩, c⟩, d⟩, e⟩, f⟩, g⟩, i⟩ := h
  exact ⟨He.eqO_ok a, He.eqO_ok b, c, d, He.eqO_ok e, He.eqO_ok f, g, i⟩
theorem lookup_memD {x : Str} {d : D} : ∀ {gc : List (Str × D)}, gc.lookup x = some d → (x, d) ∈ gc
  | [], h => by cases h
  | (y, e) :: r, h => by
    rw [List.lookup_cons] at h
    split at h
    · rename_i q
      cases h
      rw [beq_iff_eq.mp q]
      exact List.mem_cons_self
    · exact List.mem_cons_of_mem _ (lookup_memD h)
theorem mf_of {fr : List Str} {gc : List (Str × D)} {ec : List Str} {K : PySem.W.Frag} {h : Heap} {mg : Str → Option Value} (X : K.In h) (G : h.Ns mainGlobals mg) (c : mfB fr gc ec K = true) : MF fr gc ec (subS ec) K mg := by
  unfold mfB at c
  simp only [Bool.and_eq_true, List.all_eq_true, decide_eq_true_eq] at c
  obtain ⟨⟨c1, c2⟩, c3⟩ := c
  refine ⟨fun x hx => He.free_ok X G (c1 x hx), fun x d hd => ?_, fun c hc => He.glo_ok X G (c3 c hc).1.1.1.1.1, fun c hc => excCB_ok (c3 c hc).1.1.1.1.2, fun c hc => ?_, fun c hc x hx => (c3 c hc).1.1.2 x hx, fun c hc => (c3 c hc).1.2, fun c hc => (c3 c hc).2, fun c x q => ?_⟩
  · have q := c2 _ (lookup_memD hd)
    cases d with
    | int i =>
      obtain ⟨t, e⟩ := He.int_ok X G (x := x) (i := i) q
      exact ⟨_, .int i, e, ⟨t, rfl⟩, fun _ _ => .int i⟩
    | str s =>
      obtain ⟨t, e⟩ := He.str_ok X G (x := x) (z := s) q
      exact ⟨_, .str s, e, ⟨t, rfl⟩, fun _ _ => .str s⟩
    | _ => cases q
  · obtain ⟨a, b, _, d⟩ := He.exc_ok (c3 c hc).1.1.1.2
    exact ⟨a, b, d⟩
  · unfold subS at q
    simp only [Bool.and_eq_true, decide_eq_true_eq] at q
    exact q.1
/-! ### the Hook -/
end L2.Ms

namespace Ko
open PySem (Str)
open Mv
def N_look_table : List Str := ["table", "size", "row", "thing"]
def b_look_table : MB := (.cons (.set 1 (.p1 .len (.v 0))) (.cons (.if_ (.or (.p1 .not_ (.chn .le .le (.c (.int 1)) (.v 1) (.c (.int 6)))) (.p1 .not_ (.p1 .tru (.p1 .all_ (.lc [2] (.sq (.v 0)) (.c (.bl true)) (.p2 .eq (.p1 .len (.v 2)) (.v 1))))))) (.cons (.rais "BadTable") .nil) .nil) (.cons (.if_ (.p1 .not_ (.p1 .tru (.p1 .all_ (.lc [2] (.sq (.v 0)) (.c (.bl true)) (.p1 .all_ (.lc [3] (.sq (.v 2)) (.c (.bl true)) (.chn .le .lt (.c (.int 0)) (.v 3) (.v 1)))))))) (.cons (.rais "BadTable") .nil) .nil) .nil)))
def c_look_table (S : Sub) : List En := []
def r_look_table (S : Sub) : List D → Nat → Out D := evF S (tabOf (c_look_table S)) 4 b_look_table
def N_look_thing : List Str := ["table", "thing"]
def b_look_thing : MB := (.cons (.if_ (.p1 .not_ (.chn .le .lt (.c (.int 0)) (.v 1) (.p1 .len (.v 0)))) (.cons (.rais "BadThing") .nil) .nil) .nil)
def c_look_thing (S : Sub) : List En := []
def r_look_thing (S : Sub) : List D → Nat → Out D := evF S (tabOf (c_look_thing S)) 2 b_look_thing
def N_look_things : List Str := ["table", "some", "thing"]
def b_look_things_L0 : MB := (.cons (.ex (.call "look_thing" (.cons (.v 0) (.cons (.v 2) .nil)))) .nil)
def b_look_things : MB := (.cons (.ex (.call "look_table" (.cons (.v 0) .nil))) (.cons (.for_ [2] (.sq (.v 1)) b_look_things_L0) .nil))
def c_look_things (S : Sub) : List En := [⟨"look_table", 1, r_look_table S⟩, ⟨"look_thing", 2, r_look_thing S⟩]
def r_look_things (S : Sub) : List D → Nat → Out D := evF S (tabOf (c_look_things S)) 3 b_look_things
def N_of_two : List Str := ["table", "one", "other"]
def b_of_two : MB := (.cons (.ex (.call "look_things" (.cons (.v 0) (.cons (.lst (.cons (.v 1) (.cons (.v 2) .nil))) .nil)))) (.cons (.ret (.p2 .idx (.p2 .idx (.v 0) (.v 1)) (.v 2))) .nil))
def c_of_two (S : Sub) : List En := [⟨"look_things", 2, r_look_things S⟩]
def r_of_two (S : Sub) : List D → Nat → Out D := evF S (tabOf (c_of_two S)) 3 b_of_two
def N_made : List Str := ["size", "rule", "k"]
def b_made : MB := (.cons (.ret (.p1 .toT (.lc [2] (.rg (.v 0)) (.c (.bl true)) (.p1 .toT (.sl (.v 1) (.p2 .mul (.v 2) (.v 0)) (.p2 .mul (.p2 .add (.v 2) (.c (.int 1))) (.v 0))))))) .nil)
def c_made (S : Sub) : List En := []
def r_made (S : Sub) : List D → Nat → Out D := evF S (tabOf (c_made S)) 3 b_made
def N_turned : List Str := ["table", "row", "k"]
def b_turned : MB := (.cons (.ex (.call "look_table" (.cons (.v 0) .nil))) (.cons (.ret (.p1 .toT (.lc [2] (.rg (.p1 .len (.v 0))) (.c (.bl true)) (.p1 .toT (.lc [1] (.sq (.v 0)) (.c (.bl true)) (.p2 .idx (.v 1) (.v 2))))))) .nil))
def c_turned (S : Sub) : List En := [⟨"look_table", 1, r_look_table S⟩]
def r_turned (S : Sub) : List D → Nat → Out D := evF S (tabOf (c_turned S)) 3 b_turned
def N_call : List Str := ["table", "names", "size", "found", "k", "one", "other", "row"]
def b_call_L0 : MB := (.cons (.st2 3 (.p2 .idx (.v 1) (.v 5)) (.p2 .idx (.v 1) (.v 6)) (.p2 .idx (.v 1) (.p2 .idx (.p2 .idx (.v 0) (.v 5)) (.v 6)))) .nil)
def b_call_L1 : MB := (.cons (.for_ [6] (.rg (.v 2)) b_call_L0) .nil)
def b_call : MB := (.cons (.set 2 (.p1 .len (.v 0))) (.cons (.set 3 (.lc [4] (.rg (.v 2)) (.c (.bl true)) (.p2 .mul (.lst (.cons (.c (.int 0)) .nil)) (.v 2)))) (.cons (.for_ [5] (.rg (.v 2)) b_call_L1) (.cons (.frz [3] (.ret (.p1 .toT (.lc [7] (.sq (.v 3)) (.c (.bl true)) (.p1 .toT (.v 7)))))) .nil))))
def c_call (S : Sub) : List En := []
def r_call (S : Sub) : List D → Nat → Out D := evF S (tabOf (c_call S)) 8 b_call
def N_renamed : List Str := ["table", "names"]
def b_renamed : MB := (.cons (.ex (.call "look_table" (.cons (.v 0) .nil))) (.cons (.if_ (.p2 .ne (.p1 .srt (.v 1)) (.p1 .rngL (.p1 .len (.v 0)))) (.cons (.rais "BadThing") .nil) .nil) (.cons (.ret (.call "call" (.cons (.v 0) (.cons (.v 1) .nil)))) .nil)))
def c_renamed (S : Sub) : List En := [⟨"look_table", 1, r_look_table S⟩, ⟨"call", 2, r_call S⟩]
def r_renamed (S : Sub) : List D → Nat → Out D := evF S (tabOf (c_renamed S)) 2 b_renamed
def N_times : List Str := ["one", "other", "size", "found", "k", "row", "j"]
def b_times_L0 : MB := (.cons (.set 5 (.lc [6] (.rg (.p2 .mul (.p1 .len (.v 0)) (.v 2))) (.c (.bl true)) (.p2 .add (.p2 .mul (.p2 .idx (.p2 .idx (.v 0) (.p2 .fdiv (.v 4) (.v 2))) (.p2 .fdiv (.v 6) (.v 2))) (.v 2)) (.p2 .idx (.p2 .idx (.v 1) (.p2 .mod (.v 4) (.v 2))) (.p2 .mod (.v 6) (.v 2)))))) (.cons (.app 3 (.p1 .toT (.v 5))) .nil))
def b_times : MB := (.cons (.ex (.call "look_table" (.cons (.v 0) .nil))) (.cons (.ex (.call "look_table" (.cons (.v 1) .nil))) (.cons (.set 2 (.p1 .len (.v 1))) (.cons (.if_ (.p2 .gt (.p2 .mul (.p1 .len (.v 0)) (.v 2)) (.c (.int 6))) (.cons (.rais "TooGreat") .nil) .nil) (.cons (.set 3 (.lst .nil)) (.cons (.for_ [4] (.rg (.p2 .mul (.p1 .len (.v 0)) (.v 2))) b_times_L0) (.cons (.frz [3] (.ret (.p1 .toT (.v 3)))) .nil)))))))
def c_times (S : Sub) : List En := [⟨"look_table", 1, r_look_table S⟩]
def r_times (S : Sub) : List D → Nat → Out D := evF S (tabOf (c_times S)) 7 b_times
def N_number_of : List Str := ["table", "found", "row", "thing"]
def b_number_of_L0 : MB := (.cons (.set 1 (.p2 .add (.p2 .mul (.v 1) (.p1 .len (.v 0))) (.v 3))) .nil)
def b_number_of_L1 : MB := (.cons (.for_ [3] (.sq (.v 2)) b_number_of_L0) .nil)
def b_number_of : MB := (.cons (.ex (.call "look_table" (.cons (.v 0) .nil))) (.cons (.if_ (.p2 .gt (.p1 .len (.v 0)) (.c (.int 3))) (.cons (.rais "TooGreat") .nil) .nil) (.cons (.set 1 (.c (.int 0))) (.cons (.for_ [2] (.sq (.v 0)) b_number_of_L1) (.cons (.ret (.v 1)) .nil)))))
def c_number_of (S : Sub) : List En := [⟨"look_table", 1, r_look_table S⟩]
def r_number_of (S : Sub) : List D → Nat → Out D := evF S (tabOf (c_number_of S)) 4 b_number_of
def N_table_at : List Str := ["size", "number", "whole", "k", "found"]
def b_table_at_L0 : MB := (.cons (.app 4 (.p2 .mod (.v 1) (.v 0))) (.cons (.set 1 (.p2 .fdiv (.v 1) (.v 0))) .nil))
def b_table_at_L1 : MB := (.cons (.set 2 (.p2 .mul (.v 2) (.v 0))) .nil)
def b_table_at : MB := (.cons (.if_ (.p1 .not_ (.chn .le .le (.c (.int 1)) (.v 0) (.c (.int 3)))) (.cons (.rais "TooGreat") .nil) .nil) (.cons (.set 2 (.c (.int 1))) (.cons (.for_ [3] (.rg (.p2 .mul (.v 0) (.v 0))) b_table_at_L1) (.cons (.if_ (.p1 .not_ (.chn .le .lt (.c (.int 0)) (.v 1) (.v 2))) (.cons (.rais "BadNumber") .nil) .nil) (.cons (.set 4 (.lst .nil)) (.cons (.for_ [3] (.rg (.p2 .mul (.v 0) (.v 0))) b_table_at_L0) (.cons (.frz [4] (.ret (.call "made" (.cons (.v 0) (.cons (.p1 .rev (.v 4)) .nil))))) .nil)))))))
def c_table_at (S : Sub) : List En := [⟨"made", 2, r_made S⟩]
def r_table_at (S : Sub) : List D → Nat → Out D := evF S (tabOf (c_table_at S)) 5 b_table_at
def N_written : List Str := ["table", "thing", "row"]
def b_written : MB := (.cons (.ex (.call "look_table" (.cons (.v 0) .nil))) (.cons (.ret (.jn (.c (.str " ")) (.lc [2] (.sq (.v 0)) (.c (.bl true)) (.jn (.c (.str "")) (.lc [1] (.sq (.v 2)) (.c (.bl true)) (.p1 .strI (.v 1))))))) .nil))
def c_written (S : Sub) : List En := [⟨"look_table", 1, r_look_table S⟩]
def r_written (S : Sub) : List D → Nat → Out D := evF S (tabOf (c_written S)) 3 b_written
def N_does_keep : List Str := ["table", "parting", "size", "one", "other"]
def b_does_keep_L0 : MB := (.cons (.if_ (.p2 .ne (.p2 .idx (.v 1) (.p2 .idx (.p2 .idx (.v 0) (.v 3)) (.v 4))) (.p2 .idx (.v 1) (.p2 .idx (.p2 .idx (.v 0) (.p2 .idx (.v 1) (.v 3))) (.p2 .idx (.v 1) (.v 4))))) (.cons (.ret (.c (.bl false))) .nil) .nil) .nil)
def b_does_keep_L1 : MB := (.cons (.for_ [4] (.rg (.v 2)) b_does_keep_L0) .nil)
def b_does_keep : MB := (.cons (.set 2 (.p1 .len (.v 0))) (.cons (.for_ [3] (.rg (.v 2)) b_does_keep_L1) (.cons (.ret (.c (.bl true))) .nil)))
def c_does_keep (S : Sub) : List En := []
def r_does_keep (S : Sub) : List D → Nat → Out D := evF S (tabOf (c_does_keep S)) 5 b_does_keep
def N_partings : List Str := ["size", "found", "thing", "longer", "parting", "least"]
def b_partings_L0 : MB := (.cons (.ext 3 (.p2 .add (.lc [5] (.sq (.p1 .sset (.v 4))) (.c (.bl true)) (.p2 .add (.v 4) (.tup (.cons (.v 5) .nil)))) (.lst (.cons (.p2 .add (.v 4) (.tup (.cons (.v 2) .nil))) .nil)))) .nil)
def b_partings_L1 : MB := (.cons (.set 3 (.lst .nil)) (.cons (.for_ [4] (.sq (.v 1)) b_partings_L0) (.cons (.frz [3] (.set 1 (.v 3))) .nil)))
def b_partings : MB := (.cons (.set 1 (.lst (.cons (.tup .nil) .nil))) (.cons (.for_ [2] (.rg (.v 0)) b_partings_L1) (.cons (.frz [3] (.ret (.p1 .srt (.v 1)))) .nil)))
def c_partings (S : Sub) : List En := []
def r_partings (S : Sub) : List D → Nat → Out D := evF S (tabOf (c_partings S)) 6 b_partings
def N_kept_ones : List Str := ["table", "parting"]
def b_kept_ones : MB := (.cons (.ex (.call "look_table" (.cons (.v 0) .nil))) (.cons (.ret (.lc [1] (.sq (.call "partings" (.cons (.p1 .len (.v 0)) .nil))) (.p1 .tru (.call "does_keep" (.cons (.v 0) (.cons (.v 1) .nil)))) (.v 1))) .nil))
def c_kept_ones (S : Sub) : List En := [⟨"look_table", 1, r_look_table S⟩, ⟨"does_keep", 2, r_does_keep S⟩, ⟨"partings", 1, r_partings S⟩]
def r_kept_ones (S : Sub) : List D → Nat → Out D := evF S (tabOf (c_kept_ones S)) 2 b_kept_ones
def N_is_simple : List Str := ["table"]
def b_is_simple : MB := (.cons (.ret (.p2 .eq (.p1 .len (.call "kept_ones" (.cons (.v 0) .nil))) (.c (.int 2)))) .nil)
def c_is_simple (S : Sub) : List En := [⟨"kept_ones", 1, r_kept_ones S⟩]
def r_is_simple (S : Sub) : List D → Nat → Out D := evF S (tabOf (c_is_simple S)) 1 b_is_simple
def N_splits : List Str := ["size", "one", "other", "k"]
def b_splits : MB := (.cons (.if_ (.or (.p2 .lt (.p1 .lset (.v 1)) (.c (.int 2))) (.or (.p2 .lt (.p1 .lset (.v 2)) (.c (.int 2))) (.p2 .ne (.p2 .mul (.p1 .lset (.v 1)) (.p1 .lset (.v 2))) (.v 0)))) (.cons (.ret (.c (.bl false))) .nil) .nil) (.cons (.ret (.p2 .eq (.p1 .lsetT (.lc [3] (.rg (.v 0)) (.c (.bl true)) (.tup (.cons (.p2 .idx (.v 1) (.v 3)) (.cons (.p2 .idx (.v 2) (.v 3)) .nil))))) (.v 0))) .nil))
def c_splits (S : Sub) : List En := []
def r_splits (S : Sub) : List D → Nat → Out D := evF S (tabOf (c_splits S)) 4 b_splits
def N_is_product : List Str := ["table", "some", "one", "other"]
def b_is_product_L0 : MB := (.cons (.if_ (.p1 .tru (.call "splits" (.cons (.p1 .len (.v 0)) (.cons (.v 2) (.cons (.v 3) .nil))))) (.cons (.ret (.tup (.cons (.v 2) (.cons (.v 3) .nil)))) .nil) .nil) .nil)
def b_is_product_L1 : MB := (.cons (.for_ [3] (.sq (.v 1)) b_is_product_L0) .nil)
def b_is_product : MB := (.cons (.ex (.call "look_table" (.cons (.v 0) .nil))) (.cons (.set 1 (.call "kept_ones" (.cons (.v 0) .nil))) (.cons (.for_ [2] (.sq (.v 1)) b_is_product_L1) (.cons (.ret (.c .non)) .nil))))
def c_is_product (S : Sub) : List En := [⟨"look_table", 1, r_look_table S⟩, ⟨"kept_ones", 1, r_kept_ones S⟩, ⟨"splits", 3, r_splits S⟩]
def r_is_product (S : Sub) : List D → Nat → Out D := evF S (tabOf (c_is_product S)) 4 b_is_product
def N_can_go_on : List Str := ["one", "other", "some", "size", "a", "b"]
def b_can_go_on_L0 : MB := (.cons (.if_ (.and (.p2 .lt (.p2 .idx (.p2 .idx (.v 0) (.v 4)) (.v 5)) (.v 3)) (.p2 .ne (.p2 .idx (.v 2) (.p2 .idx (.p2 .idx (.v 0) (.v 4)) (.v 5))) (.p2 .idx (.p2 .idx (.v 1) (.p2 .idx (.v 2) (.v 4))) (.p2 .idx (.v 2) (.v 5))))) (.cons (.ret (.c (.bl false))) .nil) .nil) .nil)
def b_can_go_on_L1 : MB := (.cons (.for_ [5] (.rg (.v 3)) b_can_go_on_L0) .nil)
def b_can_go_on : MB := (.cons (.set 3 (.p1 .len (.v 2))) (.cons (.for_ [4] (.rg (.v 3)) b_can_go_on_L1) (.cons (.ret (.c (.bl true))) .nil)))
def c_can_go_on (S : Sub) : List En := []
def r_can_go_on (S : Sub) : List D → Nat → Out D := evF S (tabOf (c_can_go_on S)) 6 b_can_go_on
def N_leadings : List Str := ["one", "other", "found", "a", "longer", "some", "thing"]
def b_leadings_L0 : MB := (.cons (.ext 4 (.lc [6] (.rg (.p1 .len (.v 1))) (.p1 .tru (.call "can_go_on" (.cons (.v 0) (.cons (.v 1) (.cons (.p2 .add (.v 5) (.tup (.cons (.v 6) .nil))) .nil))))) (.p2 .add (.v 5) (.tup (.cons (.v 6) .nil))))) .nil)
def b_leadings_L1 : MB := (.cons (.set 4 (.lst .nil)) (.cons (.for_ [5] (.sq (.v 2)) b_leadings_L0) (.cons (.frz [4] (.set 2 (.v 4))) .nil)))
def b_leadings : MB := (.cons (.ex (.call "look_table" (.cons (.v 0) .nil))) (.cons (.ex (.call "look_table" (.cons (.v 1) .nil))) (.cons (.set 2 (.lst (.cons (.tup .nil) .nil))) (.cons (.for_ [3] (.rg (.p1 .len (.v 0))) b_leadings_L1) (.cons (.frz [4] (.ret (.v 2))) .nil)))))
def c_leadings (S : Sub) : List En := [⟨"look_table", 1, r_look_table S⟩, ⟨"can_go_on", 3, r_can_go_on S⟩]
def r_leadings (S : Sub) : List D → Nat → Out D := evF S (tabOf (c_leadings S)) 7 b_leadings
def N_orders : List Str := ["size", "found", "k", "longer", "some", "thing"]
def b_orders_L0 : MB := (.cons (.ext 3 (.lc [5] (.rg (.v 0)) (.p2 .nin (.v 5) (.v 4)) (.p2 .add (.v 4) (.lst (.cons (.v 5) .nil))))) .nil)
def b_orders_L1 : MB := (.cons (.set 3 (.lst .nil)) (.cons (.for_ [4] (.sq (.v 1)) b_orders_L0) (.cons (.frz [3] (.set 1 (.v 3))) .nil)))
def b_orders : MB := (.cons (.set 1 (.lst (.cons (.lst .nil) .nil))) (.cons (.for_ [2] (.rg (.v 0)) b_orders_L1) (.cons (.frz [3] (.ret (.v 1))) .nil)))
def c_orders (S : Sub) : List En := []
def r_orders (S : Sub) : List D → Nat → Out D := evF S (tabOf (c_orders S)) 6 b_orders
def N_least_form : List Str := ["table", "names"]
def b_least_form : MB := (.cons (.ex (.call "look_table" (.cons (.v 0) .nil))) (.cons (.ret (.p1 .minL (.lc [1] (.sq (.call "orders" (.cons (.p1 .len (.v 0)) .nil))) (.c (.bl true)) (.call "call" (.cons (.v 0) (.cons (.v 1) .nil)))))) .nil))
def c_least_form (S : Sub) : List En := [⟨"look_table", 1, r_look_table S⟩, ⟨"call", 2, r_call S⟩, ⟨"orders", 1, r_orders S⟩]
def r_least_form (S : Sub) : List D → Nat → Out D := evF S (tabOf (c_least_form S)) 2 b_least_form
def N_grown : List Str := ["table", "some", "found", "k", "more", "other", "fresh", "thing"]
def b_grown_L0 : MB := (.cons (.set 4 (.p2 .add (.lc [5] (.sq (.v 2)) (.c (.bl true)) (.p2 .idx (.p2 .idx (.v 0) (.p2 .idx (.v 2) (.v 3))) (.v 5))) (.lc [5] (.sq (.v 2)) (.c (.bl true)) (.p2 .idx (.p2 .idx (.v 0) (.v 5)) (.p2 .idx (.v 2) (.v 3)))))) (.cons (.set 6 (.p1 .sset (.lc [7] (.sq (.v 4)) (.p2 .nin (.v 7) (.v 2)) (.v 7)))) (.cons (.if_ (.p1 .tru (.v 6)) (.cons (.set 2 (.p1 .srt (.p2 .add (.v 2) (.v 6)))) (.cons (.set 3 (.c (.int 0))) .nil)) (.cons (.set 3 (.p2 .add (.v 3) (.c (.int 1)))) .nil)) .nil)))
def b_grown : MB := (.cons (.set 2 (.p1 .sset (.v 1))) (.cons (.set 3 (.c (.int 0))) (.cons (.whl turnsW (.p2 .lt (.v 3) (.p1 .len (.v 2))) b_grown_L0) (.cons (.retO 2) .nil))))
def c_grown (S : Sub) : List En := []
def r_grown (S : Sub) : List D → Nat → Out D := evF S (tabOf (c_grown S)) 8 b_grown
def N_lists : List Str := ["size", "found", "thing", "some", "count"]
def b_lists_L0 : MB := (.cons (.set 1 (.p2 .add (.v 1) (.lc [3] (.sq (.v 1)) (.c (.bl true)) (.p2 .add (.v 3) (.lst (.cons (.v 2) .nil)))))) .nil)
def b_lists : MB := (.cons (.set 1 (.lst (.cons (.lst .nil) .nil))) (.cons (.for_ [2] (.rg (.v 0)) b_lists_L0) (.cons (.ret (.lc [4, 3] (.sq (.p1 .srt (.lc [3] (.sq (.v 1)) (.c (.bl true)) (.tup (.cons (.p1 .len (.v 3)) (.cons (.v 3) .nil)))))) (.c (.bl true)) (.v 3))) .nil)))
def c_lists (S : Sub) : List En := []
def r_lists (S : Sub) : List D → Nat → Out D := evF S (tabOf (c_lists S)) 5 b_lists
def N_parts : List Str := ["table", "some"]
def b_parts : MB := (.cons (.ex (.call "look_table" (.cons (.v 0) .nil))) (.cons (.ret (.lc [1] (.sq (.call "lists" (.cons (.p1 .len (.v 0)) .nil))) (.and (.p1 .tru (.v 1)) (.p2 .eq (.call "grown" (.cons (.v 0) (.cons (.v 1) .nil))) (.v 1))) (.v 1))) .nil))
def c_parts (S : Sub) : List En := [⟨"look_table", 1, r_look_table S⟩, ⟨"grown", 2, r_grown S⟩, ⟨"lists", 1, r_lists S⟩]
def r_parts (S : Sub) : List D → Nat → Out D := evF S (tabOf (c_parts S)) 2 b_parts
def N_fewest : List Str := ["table", "every", "some"]
def b_fewest : MB := (.cons (.ex (.call "look_table" (.cons (.v 0) .nil))) (.cons (.set 1 (.p1 .rngL (.p1 .len (.v 0)))) (.cons (.ret (.p2 .idx (.lc [2] (.sq (.call "lists" (.cons (.p1 .len (.v 0)) .nil))) (.p2 .eq (.call "grown" (.cons (.v 0) (.cons (.v 2) .nil))) (.v 1)) (.v 2)) (.c (.int 0)))) .nil)))
def c_fewest (S : Sub) : List En := [⟨"look_table", 1, r_look_table S⟩, ⟨"grown", 2, r_grown S⟩, ⟨"lists", 1, r_lists S⟩]
def r_fewest (S : Sub) : List D → Nat → Out D := evF S (tabOf (c_fewest S)) 3 b_fewest
def N_idle : List Str := ["table", "thing"]
def b_idle : MB := (.cons (.ex (.call "look_table" (.cons (.v 0) .nil))) (.cons (.ret (.lc [1] (.rg (.p1 .len (.v 0))) (.p2 .eq (.p2 .idx (.p2 .idx (.v 0) (.v 1)) (.v 1)) (.v 1)) (.v 1))) .nil))
def c_idle (S : Sub) : List En := [⟨"look_table", 1, r_look_table S⟩]
def r_idle (S : Sub) : List D → Nat → Out D := evF S (tabOf (c_idle S)) 2 b_idle
def N_units : List Str := ["table", "every", "left", "thing", "right", "row"]
def b_units : MB := (.cons (.ex (.call "look_table" (.cons (.v 0) .nil))) (.cons (.set 1 (.p1 .rngL (.p1 .len (.v 0)))) (.cons (.set 2 (.lc [3] (.sq (.v 1)) (.p2 .eq (.p1 .toL (.p2 .idx (.v 0) (.v 3))) (.v 1)) (.v 3))) (.cons (.set 4 (.lc [3] (.sq (.v 1)) (.p2 .eq (.lc [5] (.sq (.v 0)) (.c (.bl true)) (.p2 .idx (.v 5) (.v 3))) (.v 1)) (.v 3))) (.cons (.ret (.tup (.cons (.v 2) (.cons (.v 4) .nil)))) .nil)))))
def c_units (S : Sub) : List En := [⟨"look_table", 1, r_look_table S⟩]
def r_units (S : Sub) : List D → Nat → Out D := evF S (tabOf (c_units S)) 6 b_units
def N_noughts : List Str := ["table", "every", "left", "thing", "other", "right"]
def b_noughts : MB := (.cons (.ex (.call "look_table" (.cons (.v 0) .nil))) (.cons (.set 1 (.p1 .rngL (.p1 .len (.v 0)))) (.cons (.set 2 (.lc [3] (.sq (.v 1)) (.p1 .tru (.p1 .all_ (.lc [4] (.sq (.v 1)) (.c (.bl true)) (.p2 .eq (.p2 .idx (.p2 .idx (.v 0) (.v 3)) (.v 4)) (.v 3))))) (.v 3))) (.cons (.set 5 (.lc [3] (.sq (.v 1)) (.p1 .tru (.p1 .all_ (.lc [4] (.sq (.v 1)) (.c (.bl true)) (.p2 .eq (.p2 .idx (.p2 .idx (.v 0) (.v 4)) (.v 3)) (.v 3))))) (.v 3))) (.cons (.ret (.tup (.cons (.v 2) (.cons (.v 5) .nil)))) .nil)))))
def c_noughts (S : Sub) : List En := [⟨"look_table", 1, r_look_table S⟩]
def r_noughts (S : Sub) : List D → Nat → Out D := evF S (tabOf (c_noughts S)) 6 b_noughts
def N_law_cell : List Str := ["script", "k"]
def b_law_cell : MB := (.cons (.if_ (.p1 .tru (.v 0)) (.cons (.ret (.p2 .idx (.v 0) (.p2 .mod (.v 1) (.p1 .len (.v 0))))) .nil) .nil) (.cons (.ret (.c (.int 0))) .nil))
def c_law_cell (S : Sub) : List En := []
def r_law_cell (S : Sub) : List D → Nat → Out D := evF S (tabOf (c_law_cell S)) 2 b_law_cell
def N_law_mix : List Str := ["script", "k", "number"]
def b_law_mix : MB := (.cons (.set 2 (.p2 .mod (.p2 .add (.call "_law_cell" (.cons (.v 0) (.cons (.v 1) .nil))) (.p2 .mul (.c (.int 104729)) (.p2 .add (.v 1) (.c (.int 1))))) (.c (.int 4294967291)))) (.cons (.set 2 (.p2 .mod (.p2 .pow (.v 2) (.c (.int 5))) (.c (.int 4294967279)))) (.cons (.ret (.p2 .mod (.p2 .add (.p2 .mul (.p2 .fdiv (.v 2) (.c (.int 64))) (.c (.int 69621))) (.v 2)) (.c (.int 4294967231)))) .nil)))
def c_law_mix (S : Sub) : List En := [⟨"_law_cell", 2, r_law_cell S⟩]
def r_law_mix (S : Sub) : List D → Nat → Out D := evF S (tabOf (c_law_mix S)) 3 b_law_mix
def N_law_draw : List Str := ["script", "town", "many"]
def b_law_draw : MB := (.cons (.tick 1) (.cons (.ret (.p2 .mod (.p2 .fdiv (.call "_law_mix" (.cons (.v 0) (.cons (.p1 .len (.v 1)) .nil))) (.c (.int 8))) (.v 2))) .nil))
def c_law_draw (S : Sub) : List En := [⟨"_law_mix", 2, r_law_mix S⟩]
def r_law_draw (S : Sub) : List D → Nat → Out D := evF S (tabOf (c_law_draw S)) 3 b_law_draw
def N_law_pick : List Str := ["script", "town", "some"]
def b_law_pick : MB := (.cons (.ret (.p2 .idx (.v 2) (.call "_law_draw" (.cons (.v 0) (.cons (.v 1) (.cons (.p1 .len (.v 2)) .nil)))))) .nil)
def c_law_pick (S : Sub) : List En := [⟨"_law_draw", 3, r_law_draw S⟩]
def r_law_pick (S : Sub) : List D → Nat → Out D := evF S (tabOf (c_law_pick S)) 3 b_law_pick
def N_law_refusal : List Str := ["caught", "kinds", "words"]
def b_law_refusal : MB := (.cons (.if_ (.p1 .isN (.v 0)) (.cons (.ret (.tup (.cons (.c (.str "ok")) .nil))) .nil) .nil) (.cons (.set 1 (.lst (.cons (.p1 (.isExc "BadTable") (.v 0)) (.cons (.p1 (.isExc "BadThing") (.v 0)) (.cons (.p1 (.isExc "BadParting") (.v 0)) .nil))))) (.cons (.set 1 (.p2 .add (.v 1) (.lst (.cons (.p1 (.isExc "BadSaying") (.v 0)) (.cons (.p1 (.isExc "BadLeading") (.v 0)) (.cons (.p1 (.isExc "BadNumber") (.v 0)) .nil)))))) (.cons (.set 1 (.p2 .add (.v 1) (.lst (.cons (.p1 (.isExc "TooGreat") (.v 0)) (.cons (.p1 (.isExc "BadText") (.v 0)) .nil))))) (.cons (.if_ (.or (.p2 .ne (.mt .count (.v 1) (.c (.bl true))) (.c (.int 1))) (.p1 .not_ (.p1 .tru (.p1 (.isExc "ValueError") (.v 0))))) (.cons (.ret (.tup (.cons (.c (.str "wrong")) .nil))) .nil) .nil) (.cons (.set 2 (.lst (.cons (.c (.str "table")) (.cons (.c (.str "thing")) (.cons (.c (.str "parting")) (.cons (.c (.str "saying")) (.cons (.c (.str "leading")) (.cons (.c (.str "number")) (.cons (.c (.str "great")) (.cons (.c (.str "text")) .nil)))))))))) (.cons (.ret (.tup (.cons (.c (.str "refused")) (.cons (.p2 .idx (.v 2) (.mt .index (.v 1) (.c (.bl true)))) .nil)))) .nil)))))))
def c_law_refusal (S : Sub) : List En := []
def r_law_refusal (S : Sub) : List D → Nat → Out D := evF S (tabOf (c_law_refusal S)) 3 b_law_refusal
def N_law_named : List Str := ["table", "names", "back", "thing", "found", "a", "b"]
def b_law_named_L0 : MB := (.cons (.app 4 (.p1 .toT (.lc [6] (.rg (.p1 .len (.v 1))) (.c (.bl true)) (.p2 .idx (.v 1) (.p2 .idx (.p2 .idx (.v 0) (.p2 .idx (.v 2) (.v 5))) (.p2 .idx (.v 2) (.v 6))))))) .nil)
def b_law_named : MB := (.cons (.set 2 (.lc [3] (.rg (.p1 .len (.v 1))) (.c (.bl true)) (.mt .index (.v 1) (.v 3)))) (.cons (.set 4 (.lst .nil)) (.cons (.for_ [5] (.rg (.p1 .len (.v 1))) b_law_named_L0) (.cons (.frz [4] (.ret (.p1 .toT (.v 4)))) .nil))))
def c_law_named (S : Sub) : List En := []
def r_law_named (S : Sub) : List D → Nat → Out D := evF S (tabOf (c_law_named S)) 7 b_law_named
def N_law_table : List Str := ["script", "town", "most", "size", "kind", "rows", "a", "row", "b", "some", "names", "k", "at"]
def b_law_table_L0 : MB := (.cons (.set 12 (.call "_law_draw" (.cons (.v 0) (.cons (.v 1) (.cons (.v 3) .nil))))) (.cons (.swp 10 (.v 11) (.v 12) (.p2 .idx (.v 10) (.v 12)) (.p2 .idx (.v 10) (.v 11))) .nil))
def b_law_table_L1 : MB := (.cons (.set 9 (.lst (.cons (.p2 .mod (.p2 .add (.v 6) (.v 8)) (.v 3)) (.cons (.p2 .min2 (.v 6) (.v 8)) (.cons (.p2 .max2 (.v 6) (.v 8)) (.cons (.v 6) (.cons (.v 8) (.cons (.p2 .mod (.p2 .sub (.v 6) (.v 8)) (.v 3)) (.cons (.p2 .mod (.p2 .mul (.v 6) (.v 8)) (.v 3)) .nil))))))))) (.cons (.app 7 (.ite (.p2 .lt (.v 4) (.c (.int 7))) (.p2 .idx (.v 9) (.v 4)) (.call "_law_draw" (.cons (.v 0) (.cons (.v 1) (.cons (.v 3) .nil)))))) .nil))
def b_law_table_L2 : MB := (.cons (.set 7 (.lst .nil)) (.cons (.for_ [8] (.rg (.v 3)) b_law_table_L1) (.cons (.mv2 5 7) .nil)))
def b_law_table : MB := (.cons (.set 3 (.p2 .add (.c (.int 1)) (.call "_law_draw" (.cons (.v 0) (.cons (.v 1) (.cons (.v 2) .nil)))))) (.cons (.set 4 (.call "_law_draw" (.cons (.v 0) (.cons (.v 1) (.cons (.c (.int 8)) .nil))))) (.cons (.set 5 (.lst .nil)) (.cons (.for_ [6] (.rg (.v 3)) b_law_table_L2) (.cons (.if_ (.p2 .eq (.call "_law_draw" (.cons (.v 0) (.cons (.v 1) (.cons (.c (.int 3)) .nil)))) (.c (.int 0))) (.cons (.st2 5 (.call "_law_draw" (.cons (.v 0) (.cons (.v 1) (.cons (.v 3) .nil)))) (.call "_law_draw" (.cons (.v 0) (.cons (.v 1) (.cons (.v 3) .nil)))) (.call "_law_draw" (.cons (.v 0) (.cons (.v 1) (.cons (.v 3) .nil))))) .nil) .nil) (.cons (.set 10 (.p1 .rngL (.v 3))) (.cons (.for_ [11] (.rg (.v 3)) b_law_table_L0) (.cons (.frz [5, 7, 10] (.ret (.call "_law_named" (.cons (.lc [7] (.sq (.v 5)) (.c (.bl true)) (.p1 .toT (.v 7))) (.cons (.v 10) .nil))))) .nil))))))))
def c_law_table (S : Sub) : List En := [⟨"_law_draw", 3, r_law_draw S⟩, ⟨"_law_named", 2, r_law_named S⟩]
def r_law_table (S : Sub) : List D → Nat → Out D := evF S (tabOf (c_law_table S)) 13 b_law_table
def N_law_calls : List Str := ["kind", "table"]
def b_law_calls : MB := (.cons (.if_ (.p2 .lt (.v 0) (.c (.int 4))) (.cons (.if_ (.p2 .lt (.v 0) (.c (.int 2))) (.cons (.ret (.ite (.p2 .eq (.v 0) (.c (.int 0))) (.call "turned" (.cons (.v 1) .nil)) (.call "written" (.cons (.v 1) .nil)))) .nil) .nil) (.cons (.ret (.ite (.p2 .eq (.v 0) (.c (.int 2))) (.call "number_of" (.cons (.v 1) .nil)) (.call "of_two" (.cons (.v 1) (.cons (.c (.int 9)) (.cons (.c (.int 9)) .nil)))))) .nil)) .nil) (.cons (.if_ (.p2 .lt (.v 0) (.c (.int 8))) (.cons (.if_ (.p2 .lt (.v 0) (.c (.int 6))) (.cons (.ret (.ite (.p2 .eq (.v 0) (.c (.int 4))) (.call "fewest" (.cons (.v 1) .nil)) (.call "idle" (.cons (.v 1) .nil)))) .nil) .nil) (.cons (.ret (.ite (.p2 .eq (.v 0) (.c (.int 6))) (.call "noughts" (.cons (.v 1) .nil)) (.call "parts" (.cons (.v 1) .nil)))) .nil)) .nil) (.cons (.if_ (.p2 .lt (.v 0) (.c (.int 12))) (.cons (.if_ (.p2 .lt (.v 0) (.c (.int 10))) (.cons (.ret (.ite (.p2 .eq (.v 0) (.c (.int 8))) (.call "units" (.cons (.v 1) .nil)) (.call "kept_ones" (.cons (.v 1) .nil)))) .nil) .nil) (.cons (.ret (.ite (.p2 .eq (.v 0) (.c (.int 10))) (.call "is_simple" (.cons (.v 1) .nil)) (.call "is_product" (.cons (.v 1) .nil)))) .nil)) .nil) (.cons (.if_ (.p2 .lt (.v 0) (.c (.int 14))) (.cons (.ret (.ite (.p2 .eq (.v 0) (.c (.int 12))) (.call "renamed" (.cons (.v 1) (.cons (.lst (.cons (.c (.int 9)) .nil)) .nil))) (.call "times" (.cons (.v 1) (.cons (.v 1) .nil))))) .nil) .nil) (.cons (.ret (.ite (.p2 .eq (.v 0) (.c (.int 14))) (.call "leadings" (.cons (.v 1) (.cons (.v 1) .nil))) (.call "least_form" (.cons (.v 1) .nil)))) .nil)))))
def c_law_calls (S : Sub) : List En := [⟨"of_two", 3, r_of_two S⟩, ⟨"turned", 1, r_turned S⟩, ⟨"renamed", 2, r_renamed S⟩, ⟨"times", 2, r_times S⟩, ⟨"number_of", 1, r_number_of S⟩, ⟨"written", 1, r_written S⟩, ⟨"kept_ones", 1, r_kept_ones S⟩, ⟨"is_simple", 1, r_is_simple S⟩, ⟨"is_product", 1, r_is_product S⟩, ⟨"leadings", 2, r_leadings S⟩, ⟨"least_form", 1, r_least_form S⟩, ⟨"parts", 1, r_parts S⟩, ⟨"fewest", 1, r_fewest S⟩, ⟨"idle", 1, r_idle S⟩, ⟨"units", 1, r_units S⟩, ⟨"noughts", 1, r_noughts S⟩]
def r_law_calls (S : Sub) : List D → Nat → Out D := evF S (tabOf (c_law_calls S)) 2 b_law_calls
def N_law_number : List Str := ["table", "found", "row", "thing"]
def b_law_number_L0 : MB := (.cons (.set 1 (.p2 .add (.p2 .mul (.v 1) (.p1 .len (.v 0))) (.v 3))) .nil)
def b_law_number_L1 : MB := (.cons (.for_ [3] (.sq (.v 2)) b_law_number_L0) .nil)
def b_law_number : MB := (.cons (.set 1 (.c (.int 0))) (.cons (.for_ [2] (.sq (.v 0)) b_law_number_L1) (.cons (.ret (.v 1)) .nil)))
def c_law_number (S : Sub) : List En := []
def r_law_number (S : Sub) : List D → Nat → Out D := evF S (tabOf (c_law_number S)) 4 b_law_number
def N_look_parting : List Str := ["table", "parting", "thing", "least"]
def b_look_parting : MB := (.cons (.ex (.call "look_table" (.cons (.v 0) .nil))) (.cons (.if_ (.or (.p2 .ne (.p1 .len (.v 1)) (.p1 .len (.v 0))) (.p1 .not_ (.p1 .tru (.p1 .all_ (.lc [2] (.rg (.p1 .len (.v 1))) (.c (.bl true)) (.chn .le .le (.c (.int 0)) (.p2 .idx (.v 1) (.v 2)) (.v 2))))))) (.cons (.rais "BadParting") .nil) .nil) (.cons (.if_ (.p1 .not_ (.p1 .tru (.p1 .all_ (.lc [3] (.sq (.v 1)) (.c (.bl true)) (.p2 .eq (.p2 .idx (.v 1) (.v 3)) (.v 3)))))) (.cons (.rais "BadParting") .nil) .nil) .nil)))
def c_look_parting (S : Sub) : List En := [⟨"look_table", 1, r_look_table S⟩]
def r_look_parting (S : Sub) : List D → Nat → Out D := evF S (tabOf (c_look_parting S)) 4 b_look_parting
def N_is_kept : List Str := ["table", "parting"]
def b_is_kept : MB := (.cons (.ex (.call "look_parting" (.cons (.v 0) (.cons (.v 1) .nil)))) (.cons (.ret (.call "does_keep" (.cons (.v 0) (.cons (.v 1) .nil)))) .nil))
def c_is_kept (S : Sub) : List En := [⟨"look_parting", 2, r_look_parting S⟩, ⟨"does_keep", 2, r_does_keep S⟩]
def r_is_kept (S : Sub) : List D → Nat → Out D := evF S (tabOf (c_is_kept S)) 2 b_is_kept
def N_tidied : List Str := ["parting", "name"]
def b_tidied : MB := (.cons (.ret (.p1 .toT (.lc [1] (.sq (.v 0)) (.c (.bl true)) (.mt .index (.v 0) (.v 1))))) .nil)
def c_tidied (S : Sub) : List En := []
def r_tidied (S : Sub) : List D → Nat → Out D := evF S (tabOf (c_tidied S)) 2 b_tidied
def N_closed : List Str := ["table", "names", "pairs", "size", "row", "thing", "found", "one", "other", "low", "high", "name"]
def b_closed_L0 : MB := (.cons (.ext 4 (.lst (.cons (.tup (.cons (.p2 .idx (.p2 .idx (.v 0) (.v 7)) (.v 5)) (.cons (.p2 .idx (.p2 .idx (.v 0) (.v 8)) (.v 5)) .nil))) (.cons (.tup (.cons (.p2 .idx (.p2 .idx (.v 0) (.v 5)) (.v 7)) (.cons (.p2 .idx (.p2 .idx (.v 0) (.v 5)) (.v 8)) .nil))) .nil)))) .nil)
def b_closed_L1 : MB := (.cons (.popu [7, 8] 4) (.cons (.set 9 (.p2 .min2 (.p2 .idx (.v 6) (.v 7)) (.p2 .idx (.v 6) (.v 8)))) (.cons (.set 10 (.p2 .max2 (.p2 .idx (.v 6) (.v 7)) (.p2 .idx (.v 6) (.v 8)))) (.cons (.if_ (.p2 .ne (.v 9) (.v 10)) (.cons (.set 6 (.lc [11] (.sq (.v 6)) (.c (.bl true)) (.ite (.p2 .eq (.v 11) (.v 10)) (.v 9) (.v 11)))) (.cons (.for_ [5] (.rg (.v 3)) b_closed_L0) .nil)) .nil) .nil))))
def b_closed_L2 : MB := (.cons (.app 4 (.tup (.cons (.v 5) (.cons (.p2 .idx (.v 1) (.v 5)) .nil)))) .nil)
def b_closed : MB := (.cons (.set 3 (.p1 .len (.v 0))) (.cons (.set 4 (.p1 .toL (.v 2))) (.cons (.for_ [5] (.rg (.v 3)) b_closed_L2) (.cons (.set 6 (.p1 .rngL (.v 3))) (.cons (.whl turnsW (.p1 .tru (.v 4)) b_closed_L1) (.cons (.frz [4] (.ret (.p1 .toT (.v 6)))) .nil))))))
def c_closed (S : Sub) : List En := []
def r_closed (S : Sub) : List D → Nat → Out D := evF S (tabOf (c_closed S)) 12 b_closed
def N_together : List Str := ["table", "pairs", "one", "other"]
def b_together_L0 : MB := (.cons (.ex (.call "look_things" (.cons (.v 0) (.cons (.lst (.cons (.v 2) (.cons (.v 3) .nil))) .nil)))) .nil)
def b_together : MB := (.cons (.ex (.call "look_table" (.cons (.v 0) .nil))) (.cons (.for_ [2, 3] (.sq (.v 1)) b_together_L0) (.cons (.ret (.call "closed" (.cons (.v 0) (.cons (.p1 .rngL (.p1 .len (.v 0))) (.cons (.v 1) .nil))))) .nil)))
def c_together (S : Sub) : List En := [⟨"look_table", 1, r_look_table S⟩, ⟨"look_things", 2, r_look_things S⟩, ⟨"closed", 3, r_closed S⟩]
def r_together (S : Sub) : List D → Nat → Out D := evF S (tabOf (c_together S)) 4 b_together
def N_met : List Str := ["one", "other", "k"]
def b_met : MB := (.cons (.ret (.call "tidied" (.cons (.lc [2] (.rg (.p1 .len (.v 0))) (.c (.bl true)) (.tup (.cons (.p2 .idx (.v 0) (.v 2)) (.cons (.p2 .idx (.v 1) (.v 2)) .nil)))) .nil))) .nil)
def c_met (S : Sub) : List En := [⟨"tidied", 1, r_tidied S⟩]
def r_met (S : Sub) : List D → Nat → Out D := evF S (tabOf (c_met S)) 3 b_met
def N_both_met : List Str := ["table", "one", "other"]
def b_both_met : MB := (.cons (.ex (.call "look_parting" (.cons (.v 0) (.cons (.v 1) .nil)))) (.cons (.ex (.call "look_parting" (.cons (.v 0) (.cons (.v 2) .nil)))) (.cons (.ret (.call "met" (.cons (.v 1) (.cons (.v 2) .nil)))) .nil)))
def c_both_met (S : Sub) : List En := [⟨"look_parting", 2, r_look_parting S⟩, ⟨"met", 2, r_met S⟩]
def r_both_met (S : Sub) : List D → Nat → Out D := evF S (tabOf (c_both_met S)) 3 b_both_met
def N_both_joined : List Str := ["table", "one", "other", "thing"]
def b_both_joined : MB := (.cons (.ex (.call "look_parting" (.cons (.v 0) (.cons (.v 1) .nil)))) (.cons (.ex (.call "look_parting" (.cons (.v 0) (.cons (.v 2) .nil)))) (.cons (.ret (.call "closed" (.cons (.v 0) (.cons (.v 1) (.cons (.lc [3] (.rg (.p1 .len (.v 0))) (.c (.bl true)) (.tup (.cons (.v 3) (.cons (.p2 .idx (.v 2) (.v 3)) .nil)))) .nil))))) .nil)))
def c_both_joined (S : Sub) : List En := [⟨"look_parting", 2, r_look_parting S⟩, ⟨"closed", 3, r_closed S⟩]
def r_both_joined (S : Sub) : List D → Nat → Out D := evF S (tabOf (c_both_joined S)) 4 b_both_joined
def N_parted_table : List Str := ["table", "parting", "least", "other", "one"]
def b_parted_table : MB := (.cons (.if_ (.p1 .not_ (.p1 .tru (.call "is_kept" (.cons (.v 0) (.cons (.v 1) .nil))))) (.cons (.rais "BadParting") .nil) .nil) (.cons (.set 2 (.p1 .sset (.v 1))) (.cons (.ret (.p1 .toT (.lc [4] (.sq (.v 2)) (.c (.bl true)) (.p1 .toT (.lc [3] (.sq (.v 2)) (.c (.bl true)) (.mt .index (.v 2) (.p2 .idx (.v 1) (.p2 .idx (.p2 .idx (.v 0) (.v 4)) (.v 3))))))))) .nil)))
def c_parted_table (S : Sub) : List En := [⟨"is_kept", 2, r_is_kept S⟩]
def r_parted_table (S : Sub) : List D → Nat → Out D := evF S (tabOf (c_parted_table S)) 5 b_parted_table
def N_does_lead : List Str := ["one", "other", "leading", "a", "b"]
def b_does_lead_L0 : MB := (.cons (.if_ (.p2 .ne (.p2 .idx (.v 2) (.p2 .idx (.p2 .idx (.v 0) (.v 3)) (.v 4))) (.p2 .idx (.p2 .idx (.v 1) (.p2 .idx (.v 2) (.v 3))) (.p2 .idx (.v 2) (.v 4)))) (.cons (.ret (.c (.bl false))) .nil) .nil) .nil)
def b_does_lead_L1 : MB := (.cons (.for_ [4] (.rg (.p1 .len (.v 0))) b_does_lead_L0) .nil)
def b_does_lead : MB := (.cons (.for_ [3] (.rg (.p1 .len (.v 0))) b_does_lead_L1) (.cons (.ret (.c (.bl true))) .nil))
def c_does_lead (S : Sub) : List En := []
def r_does_lead (S : Sub) : List D → Nat → Out D := evF S (tabOf (c_does_lead S)) 5 b_does_lead
def N_look_leading : List Str := ["one", "other", "leading", "thing"]
def b_look_leading : MB := (.cons (.ex (.call "look_table" (.cons (.v 0) .nil))) (.cons (.ex (.call "look_table" (.cons (.v 1) .nil))) (.cons (.if_ (.or (.p2 .ne (.p1 .len (.v 2)) (.p1 .len (.v 0))) (.p1 .not_ (.p1 .tru (.p1 .all_ (.lc [3] (.sq (.v 2)) (.c (.bl true)) (.chn .le .lt (.c (.int 0)) (.v 3) (.p1 .len (.v 1)))))))) (.cons (.rais "BadLeading") .nil) .nil) .nil)))
def c_look_leading (S : Sub) : List En := [⟨"look_table", 1, r_look_table S⟩]
def r_look_leading (S : Sub) : List D → Nat → Out D := evF S (tabOf (c_look_leading S)) 4 b_look_leading
def N_is_leading : List Str := ["one", "other", "leading"]
def b_is_leading : MB := (.cons (.ex (.call "look_leading" (.cons (.v 0) (.cons (.v 1) (.cons (.v 2) .nil))))) (.cons (.ret (.call "does_lead" (.cons (.v 0) (.cons (.v 1) (.cons (.v 2) .nil))))) .nil))
def c_is_leading (S : Sub) : List En := [⟨"does_lead", 3, r_does_lead S⟩, ⟨"look_leading", 3, r_look_leading S⟩]
def r_is_leading (S : Sub) : List D → Nat → Out D := evF S (tabOf (c_is_leading S)) 3 b_is_leading
def N_turns : List Str := ["one", "other", "found", "some"]
def b_turns : MB := (.cons (.set 2 (.call "leadings" (.cons (.v 0) (.cons (.v 1) .nil)))) (.cons (.ret (.lc [3] (.sq (.v 2)) (.and (.p2 .eq (.p1 .len (.v 0)) (.p1 .len (.v 1))) (.p2 .eq (.p1 .lset (.v 3)) (.p1 .len (.v 3)))) (.v 3))) .nil))
def c_turns (S : Sub) : List En := [⟨"leadings", 2, r_leadings S⟩]
def r_turns (S : Sub) : List D → Nat → Out D := evF S (tabOf (c_turns S)) 4 b_turns
def N_alike : List Str := ["one", "other", "found"]
def b_alike : MB := (.cons (.set 2 (.call "turns" (.cons (.v 0) (.cons (.v 1) .nil)))) (.cons (.ret (.ite (.p1 .tru (.v 2)) (.p2 .idx (.v 2) (.c (.int 0))) (.c .non))) .nil))
def c_alike (S : Sub) : List En := [⟨"turns", 2, r_turns S⟩]
def r_alike (S : Sub) : List D → Nat → Out D := evF S (tabOf (c_alike S)) 3 b_alike
def N_image : List Str := ["one", "other", "leading"]
def b_image : MB := (.cons (.if_ (.p1 .not_ (.p1 .tru (.call "is_leading" (.cons (.v 0) (.cons (.v 1) (.cons (.v 2) .nil)))))) (.cons (.rais "BadLeading") .nil) .nil) (.cons (.ret (.p1 .sset (.v 2))) .nil))
def c_image (S : Sub) : List En := [⟨"is_leading", 3, r_is_leading S⟩]
def r_image (S : Sub) : List D → Nat → Out D := evF S (tabOf (c_image S)) 3 b_image
def N_parting_of : List Str := ["one", "other", "leading"]
def b_parting_of : MB := (.cons (.if_ (.p1 .not_ (.p1 .tru (.call "is_leading" (.cons (.v 0) (.cons (.v 1) (.cons (.v 2) .nil)))))) (.cons (.rais "BadLeading") .nil) .nil) (.cons (.ret (.call "tidied" (.cons (.p1 .toL (.v 2)) .nil))) .nil))
def c_parting_of (S : Sub) : List En := [⟨"tidied", 1, r_tidied S⟩, ⟨"is_leading", 3, r_is_leading S⟩]
def r_parting_of (S : Sub) : List D → Nat → Out D := evF S (tabOf (c_parting_of S)) 3 b_parting_of
def N_made_of : List Str := ["table", "some"]
def b_made_of : MB := (.cons (.ex (.call "look_things" (.cons (.v 0) (.cons (.v 1) .nil)))) (.cons (.retD (.callD "grown" (.cons (.v 0) (.cons (.v 1) .nil)))) .nil))
def c_made_of (S : Sub) : List En := [⟨"look_things", 2, r_look_things S⟩, ⟨"grown", 2, r_grown S⟩]
def r_made_of (S : Sub) : List D → Nat → Out D := evF S (tabOf (c_made_of S)) 2 b_made_of
def N_is_part : List Str := ["table", "some"]
def b_is_part : MB := (.cons (.ex (.call "look_things" (.cons (.v 0) (.cons (.v 1) .nil)))) (.cons (.ret (.and (.p2 .gt (.p1 .len (.v 1)) (.c (.int 0))) (.p2 .eq (.call "grown" (.cons (.v 0) (.cons (.v 1) .nil))) (.p1 .sset (.v 1))))) .nil))
def c_is_part (S : Sub) : List En := [⟨"look_things", 2, r_look_things S⟩, ⟨"grown", 2, r_grown S⟩]
def r_is_part (S : Sub) : List D → Nat → Out D := evF S (tabOf (c_is_part S)) 2 b_is_part
def N_part_table : List Str := ["table", "some", "row", "other", "one"]
def b_part_table : MB := (.cons (.if_ (.p1 .not_ (.p1 .tru (.call "is_part" (.cons (.v 0) (.cons (.v 1) .nil))))) (.cons (.rais "BadThing") .nil) .nil) (.cons (.set 2 (.p1 .sset (.v 1))) (.cons (.ret (.p1 .toT (.lc [4] (.sq (.v 2)) (.c (.bl true)) (.p1 .toT (.lc [3] (.sq (.v 2)) (.c (.bl true)) (.mt .index (.v 2) (.p2 .idx (.p2 .idx (.v 0) (.v 4)) (.v 3)))))))) .nil)))
def c_part_table (S : Sub) : List En := [⟨"is_part", 2, r_is_part S⟩]
def r_part_table (S : Sub) : List D → Nat → Out D := evF S (tabOf (c_part_table S)) 5 b_part_table
def N_power_row : List Str := ["table", "thing", "found", "here"]
def b_power_row_L0 : MB := (.cons (.app 2 (.v 3)) (.cons (.set 3 (.p2 .idx (.p2 .idx (.v 0) (.v 3)) (.v 1))) .nil))
def b_power_row : MB := (.cons (.ex (.call "look_things" (.cons (.v 0) (.cons (.lst (.cons (.v 1) .nil)) .nil)))) (.cons (.set 2 (.lst (.cons (.v 1) .nil))) (.cons (.set 3 (.p2 .idx (.p2 .idx (.v 0) (.v 1)) (.v 1))) (.cons (.whl turnsW (.p2 .nin (.v 3) (.v 2)) b_power_row_L0) (.cons (.frz [2] (.ret (.tup (.cons (.v 2) (.cons (.mt .index (.v 2) (.v 3)) .nil))))) .nil)))))
def c_power_row (S : Sub) : List En := [⟨"look_things", 2, r_look_things S⟩]
def r_power_row (S : Sub) : List D → Nat → Out D := evF S (tabOf (c_power_row S)) 4 b_power_row
def N_is_term : List Str := ["term", "deep", "one"]
def b_is_term : MB := (.cons (.if_ (.p1 .tru (.p1 .isStr (.v 0))) (.cons (.ret (.p2 .in_ (.v 0) (.p1 .toL (.c (.str "xyz"))))) .nil) .nil) (.cons (.ret (.and (.p1 .isTup (.v 0)) (.and (.p2 .eq (.p1 .len (.v 0)) (.c (.int 2))) (.and (.p2 .gt (.v 1) (.c (.int 0))) (.p1 .all_ (.lc [2] (.sq (.v 0)) (.c (.bl true)) (.call "is_term" (.cons (.v 2) (.cons (.p2 .sub (.v 1) (.c (.int 1))) .nil))))))))) .nil))
def c_is_term (S : Sub) : List En := []
def r_is_term (S : Sub) : List D → Nat → Out D := selfRun S "is_term" 2 3 b_is_term (c_is_term S) 6
def N_look_saying : List Str := ["saying", "term"]
def b_look_saying : MB := (.cons (.if_ (.or (.p2 .ne (.p1 .len (.v 0)) (.c (.int 2))) (.p1 .not_ (.p1 .tru (.p1 .all_ (.lc [1] (.sq (.v 0)) (.c (.bl true)) (.call "is_term" (.cons (.v 1) (.cons (.c (.int 3)) .nil)))))))) (.cons (.rais "BadSaying") .nil) .nil) .nil)
def c_look_saying (S : Sub) : List En := [⟨"is_term", 2, r_is_term S⟩]
def r_look_saying (S : Sub) : List D → Nat → Out D := evF S (tabOf (c_look_saying S)) 2 b_look_saying
def N_letters_of : List Str := ["term"]
def b_letters_of : MB := (.cons (.if_ (.p1 .tru (.p1 .isStr (.v 0))) (.cons (.ret (.lst (.cons (.v 0) .nil))) .nil) .nil) (.cons (.ret (.p1 .ssetS (.p2 .add (.call "letters_of" (.cons (.p2 .idx (.v 0) (.c (.int 0))) .nil)) (.call "letters_of" (.cons (.p2 .idx (.v 0) (.c (.int 1))) .nil))))) .nil))
def c_letters_of (S : Sub) : List En := []
def r_letters_of (S : Sub) : List D → Nat → Out D := selfRun S "letters_of" 1 1 b_letters_of (c_letters_of S) 6
def N_worth : List Str := ["table", "term", "things"]
def b_worth : MB := (.cons (.if_ (.p1 .tru (.p1 .isStr (.v 1))) (.cons (.ret (.p2 .idx (.v 2) (.v 1))) .nil) .nil) (.cons (.ret (.p2 .idx (.p2 .idx (.v 0) (.call "worth" (.cons (.v 0) (.cons (.p2 .idx (.v 1) (.c (.int 0))) (.cons (.v 2) .nil))))) (.call "worth" (.cons (.v 0) (.cons (.p2 .idx (.v 1) (.c (.int 1))) (.cons (.v 2) .nil)))))) .nil))
def c_worth (S : Sub) : List En := []
def r_worth (S : Sub) : List D → Nat → Out D := selfRun S "worth" 3 3 b_worth (c_worth S) 6
def N_first_against : List Str := ["table", "saying", "letters", "rows", "letter", "longer", "row", "thing", "things"]
def b_first_against_L0 : MB := (.cons (.set 8 (.p2 .dzip (.v 2) (.v 6))) (.cons (.if_ (.p2 .ne (.call "worth" (.cons (.v 0) (.cons (.p2 .idx (.v 1) (.c (.int 0))) (.cons (.v 8) .nil)))) (.call "worth" (.cons (.v 0) (.cons (.p2 .idx (.v 1) (.c (.int 1))) (.cons (.v 8) .nil))))) (.cons (.frz [5] (.ret (.v 6))) .nil) .nil) .nil))
def b_first_against_L1 : MB := (.cons (.ext 5 (.lc [7] (.rg (.p1 .len (.v 0))) (.c (.bl true)) (.p2 .add (.v 6) (.lst (.cons (.v 7) .nil))))) .nil)
def b_first_against_L2 : MB := (.cons (.set 5 (.lst .nil)) (.cons (.for_ [6] (.sq (.v 3)) b_first_against_L1) (.cons (.frz [5] (.set 3 (.v 5))) .nil)))
def b_first_against : MB := (.cons (.ex (.call "look_table" (.cons (.v 0) .nil))) (.cons (.ex (.call "look_saying" (.cons (.v 1) .nil))) (.cons (.set 2 (.p1 .ssetS (.p2 .add (.call "letters_of" (.cons (.p2 .idx (.v 1) (.c (.int 0))) .nil)) (.call "letters_of" (.cons (.p2 .idx (.v 1) (.c (.int 1))) .nil))))) (.cons (.set 3 (.lst (.cons (.lst .nil) .nil))) (.cons (.for_ [4] (.sq (.v 2)) b_first_against_L2) (.cons (.for_ [6] (.sq (.v 3)) b_first_against_L0) (.cons (.frz [5] (.ret (.c .non))) .nil)))))))
def c_first_against (S : Sub) : List En := [⟨"look_table", 1, r_look_table S⟩, ⟨"look_saying", 1, r_look_saying S⟩, ⟨"letters_of", 1, r_letters_of S⟩, ⟨"worth", 3, r_worth S⟩]
def r_first_against (S : Sub) : List D → Nat → Out D := evF S (tabOf (c_first_against S)) 9 b_first_against
def N_holds : List Str := ["table", "saying"]
def b_holds : MB := (.cons (.ret (.p1 .isN (.call "first_against" (.cons (.v 0) (.cons (.v 1) .nil))))) .nil)
def c_holds (S : Sub) : List En := [⟨"first_against", 2, r_first_against S⟩]
def r_holds (S : Sub) : List D → Nat → Out D := evF S (tabOf (c_holds S)) 2 b_holds
def N_held : List Str := ["table", "sayings", "saying", "k"]
def b_held_L0 : MB := (.cons (.ex (.call "look_saying" (.cons (.v 2) .nil))) .nil)
def b_held : MB := (.cons (.ex (.call "look_table" (.cons (.v 0) .nil))) (.cons (.for_ [2] (.sq (.v 1)) b_held_L0) (.cons (.retD (.nls (.lc [3] (.rg (.p1 .len (.v 1))) (.p1 .tru (.call "holds" (.cons (.v 0) (.cons (.p2 .idx (.v 1) (.v 3)) .nil)))) (.v 3)))) .nil)))
def c_held (S : Sub) : List En := [⟨"look_table", 1, r_look_table S⟩, ⟨"look_saying", 1, r_look_saying S⟩, ⟨"holds", 2, r_holds S⟩]
def r_held (S : Sub) : List D → Nat → Out D := evF S (tabOf (c_held S)) 4 b_held
def N_law_two : List Str := ["kind", "one", "other"]
def b_law_two : MB := (.cons (.if_ (.p2 .lt (.v 0) (.c (.int 2))) (.cons (.ret (.ite (.p2 .eq (.v 0) (.c (.int 0))) (.call "leadings" (.cons (.v 1) (.cons (.v 2) .nil))) (.call "turns" (.cons (.v 1) (.cons (.v 2) .nil))))) .nil) .nil) (.cons (.if_ (.p2 .lt (.v 0) (.c (.int 4))) (.cons (.ret (.ite (.p2 .eq (.v 0) (.c (.int 2))) (.call "alike" (.cons (.v 1) (.cons (.v 2) .nil))) (.call "is_leading" (.cons (.v 1) (.cons (.v 2) (.cons (.tup (.cons (.c (.int 9)) .nil)) .nil)))))) .nil) .nil) (.cons (.ret (.ite (.p2 .eq (.v 0) (.c (.int 4))) (.call "image" (.cons (.v 1) (.cons (.v 2) (.cons (.tup (.cons (.c (.int 9)) .nil)) .nil)))) (.call "parting_of" (.cons (.v 1) (.cons (.v 2) (.cons (.tup (.cons (.c (.int 9)) .nil)) .nil)))))) .nil)))
def c_law_two (S : Sub) : List En := [⟨"is_leading", 3, r_is_leading S⟩, ⟨"leadings", 2, r_leadings S⟩, ⟨"turns", 2, r_turns S⟩, ⟨"alike", 2, r_alike S⟩, ⟨"image", 3, r_image S⟩, ⟨"parting_of", 3, r_parting_of S⟩]
def r_law_two (S : Sub) : List D → Nat → Out D := evF S (tabOf (c_law_two S)) 3 b_law_two
def N_law_lists : List Str := ["size", "found", "thing", "some", "count"]
def b_law_lists_L0 : MB := (.cons (.set 1 (.p2 .add (.v 1) (.lc [3] (.sq (.v 1)) (.c (.bl true)) (.p2 .add (.v 3) (.lst (.cons (.v 2) .nil)))))) .nil)
def b_law_lists : MB := (.cons (.set 1 (.lst (.cons (.lst .nil) .nil))) (.cons (.for_ [2] (.rg (.v 0)) b_law_lists_L0) (.cons (.ret (.lc [4, 3] (.sq (.p1 .srt (.lc [3] (.sq (.v 1)) (.c (.bl true)) (.tup (.cons (.p1 .len (.v 3)) (.cons (.v 3) .nil)))))) (.c (.bl true)) (.v 3))) .nil)))
def c_law_lists (S : Sub) : List En := []
def r_law_lists (S : Sub) : List D → Nat → Out D := evF S (tabOf (c_law_lists S)) 5 b_law_lists
def N_law_partings : List Str := ["size", "found", "thing", "longer", "some", "least"]
def b_law_partings_L0 : MB := (.cons (.set 3 (.p2 .add (.v 3) (.lc [5] (.sq (.p1 .sset (.p2 .add (.v 4) (.tup (.cons (.v 2) .nil))))) (.c (.bl true)) (.p2 .add (.v 4) (.tup (.cons (.v 5) .nil)))))) .nil)
def b_law_partings_L1 : MB := (.cons (.set 3 (.lst .nil)) (.cons (.for_ [4] (.sq (.v 1)) b_law_partings_L0) (.cons (.set 1 (.v 3)) .nil)))
def b_law_partings : MB := (.cons (.set 1 (.lst (.cons (.tup .nil) .nil))) (.cons (.for_ [2] (.rg (.v 0)) b_law_partings_L1) (.cons (.ret (.p1 .srt (.v 1))) .nil)))
def c_law_partings (S : Sub) : List En := []
def r_law_partings (S : Sub) : List D → Nat → Out D := evF S (tabOf (c_law_partings S)) 6 b_law_partings
def N_law_keeps : List Str := ["table", "parting", "size", "b", "c", "a", "first"]
def b_law_keeps_L0 : MB := (.cons (.set 6 (.tup (.cons (.p2 .idx (.v 1) (.p2 .idx (.p2 .idx (.v 0) (.v 5)) (.v 3))) (.cons (.p2 .idx (.v 1) (.p2 .idx (.p2 .idx (.v 0) (.v 3)) (.v 5))) .nil)))) (.cons (.if_ (.p2 .ne (.v 6) (.tup (.cons (.p2 .idx (.v 1) (.p2 .idx (.p2 .idx (.v 0) (.v 5)) (.v 4))) (.cons (.p2 .idx (.v 1) (.p2 .idx (.p2 .idx (.v 0) (.v 4)) (.v 5))) .nil)))) (.cons (.ret (.c (.bl false))) .nil) .nil) .nil))
def b_law_keeps_L1 : MB := (.cons (.for_ [5] (.rg (.v 2)) b_law_keeps_L0) .nil)
def b_law_keeps_L2 : MB := (.cons (.for_ [4] (.sq (.lc [4] (.rg (.v 2)) (.p2 .eq (.p2 .idx (.v 1) (.v 3)) (.p2 .idx (.v 1) (.v 4))) (.v 4))) b_law_keeps_L1) .nil)
def b_law_keeps : MB := (.cons (.set 2 (.p1 .len (.v 0))) (.cons (.for_ [3] (.rg (.v 2)) b_law_keeps_L2) (.cons (.ret (.c (.bl true))) .nil)))
def c_law_keeps (S : Sub) : List En := []
def r_law_keeps (S : Sub) : List D → Nat → Out D := evF S (tabOf (c_law_keeps S)) 7 b_law_keeps
def N_law_finer : List Str := ["one", "other", "k"]
def b_law_finer : MB := (.cons (.ret (.p1 .all_ (.lc [2] (.rg (.p1 .len (.v 0))) (.c (.bl true)) (.p2 .eq (.p2 .idx (.v 1) (.v 2)) (.p2 .idx (.v 1) (.p2 .idx (.v 0) (.v 2))))))) .nil)
def c_law_finer (S : Sub) : List En := []
def r_law_finer (S : Sub) : List D → Nat → Out D := evF S (tabOf (c_law_finer S)) 3 b_law_finer
def N_law_splits : List Str := ["one", "other", "firsts", "seconds", "a", "b", "k"]
def b_law_splits_L0 : MB := (.cons (.if_ (.p2 .ne (.p1 .len (.lc [6] (.rg (.p1 .len (.v 0))) (.and (.p2 .eq (.p2 .idx (.v 0) (.v 6)) (.v 4)) (.p2 .eq (.p2 .idx (.v 1) (.v 6)) (.v 5))) (.v 6))) (.c (.int 1))) (.cons (.ret (.c (.bl false))) .nil) .nil) .nil)
def b_law_splits_L1 : MB := (.cons (.for_ [5] (.sq (.v 3)) b_law_splits_L0) .nil)
def b_law_splits : MB := (.cons (.set 2 (.p1 .sset (.v 0))) (.cons (.set 3 (.p1 .sset (.v 1))) (.cons (.if_ (.or (.p2 .lt (.p1 .len (.v 2)) (.c (.int 2))) (.p2 .lt (.p1 .len (.v 3)) (.c (.int 2)))) (.cons (.ret (.c (.bl false))) .nil) .nil) (.cons (.for_ [4] (.sq (.v 2)) b_law_splits_L1) (.cons (.ret (.c (.bl true))) .nil)))))
def c_law_splits (S : Sub) : List En := []
def r_law_splits (S : Sub) : List D → Nat → Out D := evF S (tabOf (c_law_splits S)) 7 b_law_splits
def N_law_leads : List Str := ["one", "other", "some", "a", "b"]
def b_law_leads_L0 : MB := (.cons (.if_ (.p2 .ne (.p2 .idx (.v 2) (.p2 .idx (.p2 .idx (.v 0) (.v 3)) (.v 4))) (.p2 .idx (.p2 .idx (.v 1) (.p2 .idx (.v 2) (.v 3))) (.p2 .idx (.v 2) (.v 4)))) (.cons (.ret (.c (.bl false))) .nil) .nil) .nil)
def b_law_leads_L1 : MB := (.cons (.for_ [4] (.rg (.p1 .len (.v 0))) b_law_leads_L0) .nil)
def b_law_leads : MB := (.cons (.for_ [3] (.rg (.p1 .len (.v 0))) b_law_leads_L1) (.cons (.ret (.c (.bl true))) .nil))
def c_law_leads (S : Sub) : List En := []
def r_law_leads (S : Sub) : List D → Nat → Out D := evF S (tabOf (c_law_leads S)) 5 b_law_leads
def N_law_maps : List Str := ["size", "many", "found", "k", "longer", "some", "thing"]
def b_law_maps_L0 : MB := (.cons (.set 4 (.p2 .add (.v 4) (.lc [6] (.rg (.v 1)) (.c (.bl true)) (.p2 .add (.v 5) (.tup (.cons (.v 6) .nil)))))) .nil)
def b_law_maps_L1 : MB := (.cons (.set 4 (.lst .nil)) (.cons (.for_ [5] (.sq (.v 2)) b_law_maps_L0) (.cons (.set 2 (.v 4)) .nil)))
def b_law_maps : MB := (.cons (.set 2 (.lst (.cons (.tup .nil) .nil))) (.cons (.for_ [3] (.rg (.v 0)) b_law_maps_L1) (.cons (.ret (.v 2)) .nil)))
def c_law_maps (S : Sub) : List En := []
def r_law_maps (S : Sub) : List D → Nat → Out D := evF S (tabOf (c_law_maps S)) 7 b_law_maps
def N_law_orders : List Str := ["size", "found", "k", "longer", "some", "thing"]
def b_law_orders_L0 : MB := (.cons (.set 3 (.p2 .add (.v 3) (.lc [5] (.rg (.v 0)) (.p2 .nin (.v 5) (.v 4)) (.p2 .add (.v 4) (.lst (.cons (.v 5) .nil)))))) .nil)
def b_law_orders_L1 : MB := (.cons (.set 3 (.lst .nil)) (.cons (.for_ [4] (.sq (.v 1)) b_law_orders_L0) (.cons (.set 1 (.v 3)) .nil)))
def b_law_orders : MB := (.cons (.set 1 (.lst (.cons (.lst .nil) .nil))) (.cons (.for_ [2] (.rg (.v 0)) b_law_orders_L1) (.cons (.ret (.v 1)) .nil)))
def c_law_orders (S : Sub) : List En := []
def r_law_orders (S : Sub) : List D → Nat → Out D := evF S (tabOf (c_law_orders S)) 6 b_law_orders
def N_term_text : List Str := ["term"]
def b_term_text : MB := (.cons (.if_ (.p1 .tru (.p1 .isStr (.v 0))) (.cons (.ret (.v 0)) .nil) .nil) (.cons (.ret (.p2 .add (.p2 .add (.p2 .add (.c (.str "(")) (.call "term_text" (.cons (.p2 .idx (.v 0) (.c (.int 0))) .nil))) (.call "term_text" (.cons (.p2 .idx (.v 0) (.c (.int 1))) .nil))) (.c (.str ")")))) .nil))
def c_term_text (S : Sub) : List En := []
def r_term_text (S : Sub) : List D → Nat → Out D := selfRun S "term_text" 1 1 b_term_text (c_term_text S) 6
def N_said : List Str := ["saying"]
def b_said : MB := (.cons (.ex (.call "look_saying" (.cons (.v 0) .nil))) (.cons (.ret (.p2 .add (.p2 .add (.call "term_text" (.cons (.p2 .idx (.v 0) (.c (.int 0))) .nil)) (.c (.str "="))) (.call "term_text" (.cons (.p2 .idx (.v 0) (.c (.int 1))) .nil)))) .nil))
def c_said (S : Sub) : List En := [⟨"look_saying", 1, r_look_saying S⟩, ⟨"term_text", 1, r_term_text S⟩]
def r_said (S : Sub) : List D → Nat → Out D := evF S (tabOf (c_said S)) 1 b_said
def N_law_term : List Str := ["script", "town", "deep"]
def b_law_term : MB := (.cons (.if_ (.or (.p2 .eq (.v 2) (.c (.int 0))) (.p2 .eq (.call "_law_draw" (.cons (.v 0) (.cons (.v 1) (.cons (.c (.int 3)) .nil)))) (.c (.int 0)))) (.cons (.ret (.call "_law_pick" (.cons (.v 0) (.cons (.v 1) (.cons (.lst (.cons (.c (.str "x")) (.cons (.c (.str "y")) (.cons (.c (.str "z")) .nil)))) .nil))))) .nil) .nil) (.cons (.ret (.tup (.cons (.call "_law_term" (.cons (.v 0) (.cons (.v 1) (.cons (.p2 .sub (.v 2) (.c (.int 1))) .nil)))) (.cons (.call "_law_term" (.cons (.v 0) (.cons (.v 1) (.cons (.p2 .sub (.v 2) (.c (.int 1))) .nil)))) .nil)))) .nil))
def c_law_term (S : Sub) : List En := [⟨"_law_draw", 3, r_law_draw S⟩, ⟨"_law_pick", 3, r_law_pick S⟩]
def r_law_term (S : Sub) : List D → Nat → Out D := selfRun S "_law_term" 3 3 b_law_term (c_law_term S) 6
def N_law_saying : List Str := ["script", "town", "some", "deep"]
def b_law_saying : MB := (.cons (.set 2 (.lst (.cons (.tup (.cons (.c (.str "x")) (.cons (.tup (.cons (.c (.str "x")) (.cons (.c (.str "x")) .nil))) .nil))) (.cons (.tup (.cons (.tup (.cons (.c (.str "x")) (.cons (.c (.str "y")) .nil))) (.cons (.tup (.cons (.c (.str "y")) (.cons (.c (.str "x")) .nil))) .nil))) (.cons (.tup (.cons (.tup (.cons (.tup (.cons (.c (.str "x")) (.cons (.c (.str "y")) .nil))) (.cons (.c (.str "z")) .nil))) (.cons (.tup (.cons (.c (.str "x")) (.cons (.tup (.cons (.c (.str "y")) (.cons (.c (.str "z")) .nil))) .nil))) .nil))) (.cons (.tup (.cons (.tup (.cons (.c (.str "x")) (.cons (.c (.str "y")) .nil))) (.cons (.c (.str "x")) .nil))) .nil)))))) (.cons (.set 2 (.p2 .add (.v 2) (.lst (.cons (.tup (.cons (.tup (.cons (.c (.str "x")) (.cons (.c (.str "y")) .nil))) (.cons (.c (.str "y")) .nil))) (.cons (.tup (.cons (.tup (.cons (.c (.str "x")) (.cons (.tup (.cons (.c (.str "x")) (.cons (.c (.str "y")) .nil))) .nil))) (.cons (.tup (.cons (.c (.str "x")) (.cons (.c (.str "y")) .nil))) .nil))) (.cons (.tup (.cons (.tup (.cons (.tup (.cons (.c (.str "x")) (.cons (.c (.str "y")) .nil))) (.cons (.c (.str "y")) .nil))) (.cons (.c (.str "x")) .nil))) (.cons (.tup (.cons (.c (.str "x")) (.cons (.c (.str "y")) .nil))) .nil))))))) (.cons (.if_ (.p2 .eq (.call "_law_draw" (.cons (.v 0) (.cons (.v 1) (.cons (.c (.int 2)) .nil)))) (.c (.int 0))) (.cons (.ret (.call "_law_pick" (.cons (.v 0) (.cons (.v 1) (.cons (.v 2) .nil))))) .nil) .nil) (.cons (.set 3 (.p2 .add (.c (.int 1)) (.call "_law_draw" (.cons (.v 0) (.cons (.v 1) (.cons (.c (.int 3)) .nil)))))) (.cons (.ret (.tup (.cons (.call "_law_term" (.cons (.v 0) (.cons (.v 1) (.cons (.v 3) .nil)))) (.cons (.call "_law_term" (.cons (.v 0) (.cons (.v 1) (.cons (.call "_law_draw" (.cons (.v 0) (.cons (.v 1) (.cons (.c (.int 4)) .nil)))) .nil)))) .nil)))) .nil)))))
def c_law_saying (S : Sub) : List En := [⟨"_law_draw", 3, r_law_draw S⟩, ⟨"_law_pick", 3, r_law_pick S⟩, ⟨"_law_term", 3, r_law_term S⟩]
def r_law_saying (S : Sub) : List D → Nat → Out D := evF S (tabOf (c_law_saying S)) 4 b_law_saying
def N_law_text : List Str := ["term"]
def b_law_text : MB := (.cons (.if_ (.p1 .tru (.p1 .isStr (.v 0))) (.cons (.ret (.v 0)) .nil) .nil) (.cons (.ret (.p2 .add (.p2 .add (.p2 .add (.c (.str "(")) (.call "_law_text" (.cons (.p2 .idx (.v 0) (.c (.int 0))) .nil))) (.call "_law_text" (.cons (.p2 .idx (.v 0) (.c (.int 1))) .nil))) (.c (.str ")")))) .nil))
def c_law_text (S : Sub) : List En := []
def r_law_text (S : Sub) : List D → Nat → Out D := selfRun S "_law_text" 1 1 b_law_text (c_law_text S) 6
def N_law_worth : List Str := ["table", "term", "things"]
def b_law_worth : MB := (.cons (.if_ (.p1 .tru (.p1 .isStr (.v 1))) (.cons (.ret (.p2 .idx (.v 2) (.ms .sidx (.c (.str "xyz")) (.v 1)))) .nil) .nil) (.cons (.ret (.p2 .idx (.p2 .idx (.v 0) (.call "_law_worth" (.cons (.v 0) (.cons (.p2 .idx (.v 1) (.c (.int 0))) (.cons (.v 2) .nil))))) (.call "_law_worth" (.cons (.v 0) (.cons (.p2 .idx (.v 1) (.c (.int 1))) (.cons (.v 2) .nil)))))) .nil))
def c_law_worth (S : Sub) : List En := []
def r_law_worth (S : Sub) : List D → Nat → Out D := selfRun S "_law_worth" 3 3 b_law_worth (c_law_worth S) 6
def N_law_against : List Str := ["table", "saying", "text", "letters", "k", "a", "b", "c", "things"]
def b_law_against_L0 : MB := (.cons (.set 8 (.lst (.cons (.v 5) (.cons (.v 6) (.cons (.v 7) .nil))))) (.cons (.if_ (.p1 .tru (.p1 .all_ (.lc [4] (.rg (.c (.int 3))) (.c (.bl true)) (.or (.p2 .eq (.p2 .idx (.v 8) (.v 4)) (.c (.int 0))) (.p2 .in_ (.v 4) (.v 3)))))) (.cons (.if_ (.p2 .ne (.call "_law_worth" (.cons (.v 0) (.cons (.p2 .idx (.v 1) (.c (.int 0))) (.cons (.v 8) .nil)))) (.call "_law_worth" (.cons (.v 0) (.cons (.p2 .idx (.v 1) (.c (.int 1))) (.cons (.v 8) .nil))))) (.cons (.ret (.lc [4] (.sq (.v 3)) (.c (.bl true)) (.p2 .idx (.v 8) (.v 4)))) .nil) .nil) .nil) .nil) .nil))
def b_law_against_L1 : MB := (.cons (.for_ [7] (.rg (.p1 .len (.v 0))) b_law_against_L0) .nil)
def b_law_against_L2 : MB := (.cons (.for_ [6] (.rg (.p1 .len (.v 0))) b_law_against_L1) .nil)
def b_law_against : MB := (.cons (.set 2 (.p2 .add (.call "_law_text" (.cons (.p2 .idx (.v 1) (.c (.int 0))) .nil)) (.call "_law_text" (.cons (.p2 .idx (.v 1) (.c (.int 1))) .nil)))) (.cons (.set 3 (.lc [4] (.rg (.c (.int 3))) (.p2 .in_ (.p2 .idx (.c (.str "xyz")) (.v 4)) (.v 2)) (.v 4))) (.cons (.for_ [5] (.rg (.p1 .len (.v 0))) b_law_against_L2) (.cons (.ret (.c .non)) .nil))))
def c_law_against (S : Sub) : List En := [⟨"_law_text", 1, r_law_text S⟩, ⟨"_law_worth", 3, r_law_worth S⟩]
def r_law_against (S : Sub) : List D → Nat → Out D := evF S (tabOf (c_law_against S)) 9 b_law_against
def N_law_about : List Str := ["term"]
def b_law_about : MB := (.cons (.ret (.ite (.p1 .tru (.p1 .isStr (.v 0))) (.v 0) (.tup (.cons (.call "_law_about" (.cons (.p2 .idx (.v 0) (.c (.int 1))) .nil)) (.cons (.call "_law_about" (.cons (.p2 .idx (.v 0) (.c (.int 0))) .nil)) .nil))))) .nil)
def c_law_about (S : Sub) : List En := []
def r_law_about (S : Sub) : List D → Nat → Out D := selfRun S "_law_about" 1 1 b_law_about (c_law_about S) 6
def N_term_at : List Str := ["text", "at", "deep", "one", "other"]
def b_term_at : MB := (.cons (.if_ (.and (.p2 .ne (.sl (.v 0) (.v 1) (.p2 .add (.v 1) (.c (.int 1)))) (.c (.str ""))) (.p2 .in_ (.p2 .idx (.v 0) (.v 1)) (.c (.str "xyz")))) (.cons (.ret (.tup (.cons (.p2 .idx (.v 0) (.v 1)) (.cons (.p2 .add (.v 1) (.c (.int 1))) .nil)))) .nil) .nil) (.cons (.if_ (.or (.p2 .ne (.sl (.v 0) (.v 1) (.p2 .add (.v 1) (.c (.int 1)))) (.c (.str "("))) (.p2 .eq (.v 2) (.c (.int 0)))) (.cons (.rais "BadText") .nil) .nil) (.cons (.unp [3, 1] (.call "term_at" (.cons (.v 0) (.cons (.p2 .add (.v 1) (.c (.int 1))) (.cons (.p2 .sub (.v 2) (.c (.int 1))) .nil))))) (.cons (.unp [4, 1] (.call "term_at" (.cons (.v 0) (.cons (.v 1) (.cons (.p2 .sub (.v 2) (.c (.int 1))) .nil))))) (.cons (.if_ (.p2 .ne (.sl (.v 0) (.v 1) (.p2 .add (.v 1) (.c (.int 1)))) (.c (.str ")"))) (.cons (.rais "BadText") .nil) .nil) (.cons (.ret (.tup (.cons (.tup (.cons (.v 3) (.cons (.v 4) .nil))) (.cons (.p2 .add (.v 1) (.c (.int 1))) .nil)))) .nil))))))
def c_term_at (S : Sub) : List En := []
def r_term_at (S : Sub) : List D → Nat → Out D := selfRun S "term_at" 3 5 b_term_at (c_term_at S) 6
def N_read : List Str := ["text", "one", "at", "other"]
def b_read : MB := (.cons (.unp [1, 2] (.call "term_at" (.cons (.v 0) (.cons (.c (.int 0)) (.cons (.c (.int 3)) .nil))))) (.cons (.if_ (.p2 .ne (.sl (.v 0) (.v 2) (.p2 .add (.v 2) (.c (.int 1)))) (.c (.str "="))) (.cons (.rais "BadText") .nil) .nil) (.cons (.unp [3, 2] (.call "term_at" (.cons (.v 0) (.cons (.p2 .add (.v 2) (.c (.int 1))) (.cons (.c (.int 3)) .nil))))) (.cons (.if_ (.p2 .ne (.v 2) (.p1 .len (.v 0))) (.cons (.rais "BadText") .nil) .nil) (.cons (.ret (.tup (.cons (.v 1) (.cons (.v 3) .nil)))) .nil)))))
def c_read (S : Sub) : List En := [⟨"term_at", 3, r_term_at S⟩]
def r_read (S : Sub) : List D → Nat → Out D := evF S (tabOf (c_read S)) 4 b_read
def N_law_read : List Str := ["text", "sides", "sign", "found", "side", "row", "k", "four"]
def b_law_read_L0 : MB := (.cons (.set 7 (.sl (.v 5) (.v 6) (.p2 .add (.v 6) (.c (.int 4))))) (.cons (.if_ (.and (.p2 .eq (.p2 .idx (.v 7) (.c (.int 0))) (.c (.str "("))) (.and (.p2 .eq (.p2 .idx (.v 7) (.c (.int 3))) (.c (.str ")"))) (.and (.p2 .nin (.c (.str "(")) (.sl (.v 7) (.c (.int 1)) (.c (.int 3)))) (.p2 .nin (.c (.str ")")) (.sl (.v 7) (.c (.int 1)) (.c (.int 3))))))) (.cons (.set 5 (.p2 .add (.p2 .add (.sl (.v 5) (.c .non) (.v 6)) (.lst (.cons (.tup (.cons (.tup (.cons (.p2 .idx (.p2 .idx (.v 7) (.c (.int 1))) (.c (.int 0))) (.cons (.p2 .idx (.p2 .idx (.v 7) (.c (.int 2))) (.c (.int 0))) .nil))) (.cons (.p2 .add (.c (.int 1)) (.p2 .max2 (.p2 .idx (.p2 .idx (.v 7) (.c (.int 1))) (.c (.int 1))) (.p2 .idx (.p2 .idx (.v 7) (.c (.int 2))) (.c (.int 1))))) .nil))) .nil))) (.sl (.v 5) (.p2 .add (.v 6) (.c (.int 4))) (.c .non)))) (.cons (.set 6 (.c (.int 0))) .nil)) (.cons (.set 6 (.p2 .add (.v 6) (.c (.int 1)))) .nil)) .nil))
def b_law_read_L1 : MB := (.cons (.set 5 (.lc [2] (.sq (.v 4)) (.c (.bl true)) (.ite (.p2 .in_ (.v 2) (.c (.str "()"))) (.v 2) (.tup (.cons (.v 2) (.cons (.c (.int 0)) .nil)))))) (.cons (.set 6 (.c (.int 0))) (.cons (.whl turnsW (.p2 .lt (.p2 .add (.v 6) (.c (.int 3))) (.p1 .len (.v 5))) b_law_read_L0) (.cons (.if_ (.or (.p2 .ne (.p1 .len (.v 5)) (.c (.int 1))) (.or (.p2 .in_ (.p2 .idx (.v 5) (.c (.int 0))) (.tup (.cons (.c (.str "(")) (.cons (.c (.str ")")) .nil)))) (.p2 .gt (.p2 .idx (.p2 .idx (.v 5) (.c (.int 0))) (.c (.int 1))) (.c (.int 3))))) (.cons (.frz [3] (.ret (.c .non))) .nil) .nil) (.cons (.app 3 (.p2 .idx (.p2 .idx (.v 5) (.c (.int 0))) (.c (.int 0)))) .nil)))))
def b_law_read : MB := (.cons (.set 1 (.ms .splt (.v 0) (.c (.str "=")))) (.cons (.if_ (.or (.p2 .ne (.p1 .len (.v 1)) (.c (.int 2))) (.p2 .ne (.lc [2] (.sq (.v 0)) (.p2 .nin (.v 2) (.c (.str "()xyz="))) (.v 2)) (.lst .nil))) (.cons (.frz [3] (.ret (.c .non))) .nil) .nil) (.cons (.set 3 (.lst .nil)) (.cons (.for_ [4] (.sq (.v 1)) b_law_read_L1) (.cons (.frz [3] (.ret (.p1 .toT (.v 3)))) .nil)))))
def c_law_read (S : Sub) : List En := []
def r_law_read (S : Sub) : List D → Nat → Out D := evF S (tabOf (c_law_read S)) 8 b_law_read
def N_all_things : List Str := ["size", "letters", "found", "k", "longer", "row", "thing"]
def b_all_things_L0 : MB := (.cons (.ext 4 (.lc [6] (.rg (.v 0)) (.c (.bl true)) (.p2 .add (.v 5) (.lst (.cons (.v 6) .nil))))) .nil)
def b_all_things_L1 : MB := (.cons (.set 4 (.lst .nil)) (.cons (.for_ [5] (.sq (.v 2)) b_all_things_L0) (.cons (.frz [4] (.set 2 (.v 4))) .nil)))
def b_all_things : MB := (.cons (.set 2 (.lst (.cons (.lst .nil) .nil))) (.cons (.for_ [3] (.rg (.v 1)) b_all_things_L1) (.cons (.frz [4] (.ret (.v 2))) .nil)))
def c_all_things (S : Sub) : List En := []
def r_all_things (S : Sub) : List D → Nat → Out D := evF S (tabOf (c_all_things S)) 7 b_all_things
def N_look_letters : List Str := ["table", "letters"]
def b_look_letters : MB := (.cons (.ex (.call "look_table" (.cons (.v 0) .nil))) (.cons (.if_ (.p1 .not_ (.chn .le .le (.c (.int 1)) (.v 1) (.c (.int 3)))) (.cons (.rais "BadNumber") .nil) .nil) .nil))
def c_look_letters (S : Sub) : List En := [⟨"look_table", 1, r_look_table S⟩]
def r_look_letters (S : Sub) : List D → Nat → Out D := evF S (tabOf (c_look_letters S)) 2 b_look_letters
def N_worths : List Str := ["table", "letters", "term", "things"]
def b_worths : MB := (.cons (.ret (.p1 .toT (.lc [3] (.sq (.call "all_things" (.cons (.p1 .len (.v 0)) (.cons (.v 1) .nil)))) (.c (.bl true)) (.call "worth" (.cons (.v 0) (.cons (.v 2) (.cons (.p2 .dzip (.c (.str "xyz")) (.v 3)) .nil))))))) .nil)
def c_worths (S : Sub) : List En := [⟨"worth", 3, r_worth S⟩, ⟨"all_things", 2, r_all_things S⟩]
def r_worths (S : Sub) : List D → Nat → Out D := evF S (tabOf (c_worths S)) 4 b_worths
def N_row_for : List Str := ["table", "letters", "term", "letter"]
def b_row_for : MB := (.cons (.ex (.call "look_letters" (.cons (.v 0) (.cons (.v 1) .nil)))) (.cons (.if_ (.or (.p1 .not_ (.p1 .tru (.call "is_term" (.cons (.v 2) (.cons (.c (.int 3)) .nil))))) (.p1 .tru (.p1 .any_ (.lc [3] (.sq (.call "letters_of" (.cons (.v 2) .nil))) (.c (.bl true)) (.p2 .nin (.v 3) (.sl (.c (.str "xyz")) (.c .non) (.v 1))))))) (.cons (.rais "BadSaying") .nil) .nil) (.cons (.ret (.call "worths" (.cons (.v 0) (.cons (.v 1) (.cons (.v 2) .nil))))) .nil)))
def c_row_for (S : Sub) : List En := [⟨"is_term", 2, r_is_term S⟩, ⟨"letters_of", 1, r_letters_of S⟩, ⟨"look_letters", 2, r_look_letters S⟩, ⟨"worths", 3, r_worths S⟩]
def r_row_for (S : Sub) : List D → Nat → Out D := evF S (tabOf (c_row_for S)) 4 b_row_for
def N_look_small : List Str := ["table", "letters", "many", "things"]
def b_look_small_L0 : MB := (.cons (.set 2 (.p2 .mul (.v 2) (.p1 .len (.v 0)))) (.cons (.if_ (.p2 .gt (.v 2) (.c (.int 300))) (.cons (.rais "TooGreat") .nil) .nil) .nil))
def b_look_small : MB := (.cons (.ex (.call "look_letters" (.cons (.v 0) (.cons (.v 1) .nil)))) (.cons (.set 2 (.c (.int 1))) (.cons (.for_ [3] (.sq (.call "all_things" (.cons (.p1 .len (.v 0)) (.cons (.v 1) .nil)))) b_look_small_L0) .nil)))
def c_look_small (S : Sub) : List En := [⟨"all_things", 2, r_all_things S⟩, ⟨"look_letters", 2, r_look_letters S⟩]
def r_look_small (S : Sub) : List D → Nat → Out D := evF S (tabOf (c_look_small S)) 4 b_look_small
def N_both_of : List Str := ["table", "one", "other", "k"]
def b_both_of : MB := (.cons (.ret (.p1 .toT (.lc [3] (.rg (.p1 .len (.v 1))) (.c (.bl true)) (.p2 .idx (.p2 .idx (.v 0) (.p2 .idx (.v 1) (.v 3))) (.p2 .idx (.v 2) (.v 3)))))) .nil)
def c_both_of (S : Sub) : List En := []
def r_both_of (S : Sub) : List D → Nat → Out D := evF S (tabOf (c_both_of S)) 4 b_both_of
def N_least_texts : List Str := ["table", "letters", "found", "letter", "row", "rounds", "last", "new", "many", "k", "one", "other", "text"]
def b_least_texts_L0 : MB := (.cons (.set 4 (.call "both_of" (.cons (.v 0) (.cons (.v 10) (.cons (.v 11) .nil))))) (.cons (.set 12 (.p2 .add (.p2 .add (.p2 .add (.c (.str "(")) (.p2 .idx (.v 2) (.v 10))) (.p2 .idx (.v 2) (.v 11))) (.c (.str ")")))) (.cons (.if_ (.and (.p2 .nin (.v 4) (.v 2)) (.or (.p2 .nin (.v 4) (.v 7)) (.p2 .lt (.v 12) (.p2 .idx (.v 7) (.v 4))))) (.cons (.dpt 7 (.v 4) (.v 12)) .nil) .nil) .nil)))
def b_least_texts_L1 : MB := (.cons (.for_ [11] (.sq (.p2 .idx (.v 5) (.p2 .sub (.v 8) (.v 9)))) b_least_texts_L0) .nil)
def b_least_texts_L2 : MB := (.cons (.for_ [10] (.sq (.p2 .idx (.v 5) (.v 9))) b_least_texts_L1) .nil)
def b_least_texts_L3 : MB := (.cons (.dnw 7 true) (.cons (.set 8 (.p1 .len (.v 5))) (.cons (.for_ [9] (.rg2 (.c (.int 1)) (.v 8)) b_least_texts_L2) (.cons (.dup 2 7) (.cons (.app 5 (.p1 .kys (.v 7))) (.cons (.set 6 (.ite (.p1 .tru (.v 7)) (.v 8) (.v 6))) .nil))))))
def b_least_texts_L4 : MB := (.cons (.set 4 (.call "worths" (.cons (.v 0) (.cons (.v 1) (.cons (.v 3) .nil))))) (.cons (.dpt 2 (.v 4) (.dge (.v 2) (.v 4) (.v 3))) .nil))
def b_least_texts : MB := (.cons (.dnw 2 true) (.cons (.for_ [3] (.sq (.sl (.c (.str "xyz")) (.c .non) (.v 1))) b_least_texts_L4) (.cons (.set 5 (.lst (.cons (.lst .nil) (.cons (.p1 .kys (.v 2)) .nil)))) (.cons (.set 6 (.c (.int 1))) (.cons (.whl turnsW (.p2 .le (.p1 .len (.v 5)) (.p2 .mul (.c (.int 2)) (.v 6))) b_least_texts_L3) (.cons (.frd 2 (.frz [5] (.ret (.v 2)))) .nil))))))
def c_least_texts (S : Sub) : List En := [⟨"worths", 3, r_worths S⟩, ⟨"both_of", 3, r_both_of S⟩]
def r_least_texts (S : Sub) : List D → Nat → Out D := evF S (tabOf (c_least_texts S)) 13 b_least_texts
def N_made_rows : List Str := ["table", "letters"]
def b_made_rows : MB := (.cons (.ex (.call "look_small" (.cons (.v 0) (.cons (.v 1) .nil)))) (.cons (.ret (.p1 .skys (.call "least_texts" (.cons (.v 0) (.cons (.v 1) .nil))))) .nil))
def c_made_rows (S : Sub) : List En := [⟨"look_small", 2, r_look_small S⟩, ⟨"least_texts", 2, r_least_texts S⟩]
def r_made_rows (S : Sub) : List D → Nat → Out D := evF S (tabOf (c_made_rows S)) 2 b_made_rows
def N_least_term : List Str := ["table", "letters", "row", "thing"]
def b_least_term : MB := (.cons (.ex (.call "look_small" (.cons (.v 0) (.cons (.v 1) .nil)))) (.cons (.if_ (.or (.p2 .ne (.p1 .len (.v 2)) (.p1 .len (.call "all_things" (.cons (.p1 .len (.v 0)) (.cons (.v 1) .nil))))) (.p1 .not_ (.p1 .tru (.p1 .all_ (.lc [3] (.sq (.v 2)) (.c (.bl true)) (.chn .le .lt (.c (.int 0)) (.v 3) (.p1 .len (.v 0)))))))) (.cons (.rais "BadNumber") .nil) .nil) (.cons (.ret (.dge (.call "least_texts" (.cons (.v 0) (.cons (.v 1) .nil))) (.p1 .toT (.v 2)) (.c .non))) .nil)))
def c_least_term (S : Sub) : List En := [⟨"all_things", 2, r_all_things S⟩, ⟨"look_small", 2, r_look_small S⟩, ⟨"least_texts", 2, r_least_texts S⟩]
def r_least_term (S : Sub) : List D → Nat → Out D := evF S (tabOf (c_least_term S)) 4 b_least_term
def N_is_rich : List Str := ["table", "letters", "many", "things"]
def b_is_rich_L0 : MB := (.cons (.set 2 (.p2 .mul (.v 2) (.p1 .len (.v 0)))) .nil)
def b_is_rich : MB := (.cons (.ex (.call "look_small" (.cons (.v 0) (.cons (.v 1) .nil)))) (.cons (.set 2 (.c (.int 1))) (.cons (.for_ [3] (.sq (.call "all_things" (.cons (.p1 .len (.v 0)) (.cons (.v 1) .nil)))) b_is_rich_L0) (.cons (.ret (.p2 .eq (.p1 .len (.call "least_texts" (.cons (.v 0) (.cons (.v 1) .nil)))) (.v 2))) .nil))))
def c_is_rich (S : Sub) : List En := [⟨"all_things", 2, r_all_things S⟩, ⟨"look_small", 2, r_look_small S⟩, ⟨"least_texts", 2, r_least_texts S⟩]
def r_is_rich (S : Sub) : List D → Nat → Out D := evF S (tabOf (c_is_rich S)) 4 b_is_rich
def N_law_all : List Str := ["size", "letters", "found", "k", "longer", "row", "thing"]
def b_law_all_L0 : MB := (.cons (.set 4 (.p2 .add (.v 4) (.lc [6] (.rg (.v 0)) (.c (.bl true)) (.p2 .add (.v 5) (.lst (.cons (.v 6) .nil)))))) .nil)
def b_law_all_L1 : MB := (.cons (.set 4 (.lst .nil)) (.cons (.for_ [5] (.sq (.v 2)) b_law_all_L0) (.cons (.set 2 (.v 4)) .nil)))
def b_law_all : MB := (.cons (.set 2 (.lst (.cons (.lst .nil) .nil))) (.cons (.for_ [3] (.rg (.v 1)) b_law_all_L1) (.cons (.ret (.v 2)) .nil)))
def c_law_all (S : Sub) : List En := []
def r_law_all (S : Sub) : List D → Nat → Out D := evF S (tabOf (c_law_all S)) 7 b_law_all
def N_law_row : List Str := ["table", "letters", "term", "things"]
def b_law_row : MB := (.cons (.ret (.p1 .toT (.lc [3] (.sq (.call "_law_all" (.cons (.p1 .len (.v 0)) (.cons (.v 1) .nil)))) (.c (.bl true)) (.call "_law_worth" (.cons (.v 0) (.cons (.v 2) (.cons (.v 3) .nil))))))) .nil)
def c_law_row (S : Sub) : List En := [⟨"_law_worth", 3, r_law_worth S⟩, ⟨"_law_all", 2, r_law_all S⟩]
def r_law_row (S : Sub) : List D → Nat → Out D := evF S (tabOf (c_law_row S)) 4 b_law_row
def N_law_power : List Str := ["table", "letters", "found", "things"]
def b_law_power_L0 : MB := (.cons (.set 2 (.p2 .mul (.v 2) (.p1 .len (.v 0)))) .nil)
def b_law_power : MB := (.cons (.set 2 (.c (.int 1))) (.cons (.for_ [3] (.sq (.call "_law_all" (.cons (.p1 .len (.v 0)) (.cons (.v 1) .nil)))) b_law_power_L0) (.cons (.ret (.v 2)) .nil)))
def c_law_power (S : Sub) : List En := [⟨"_law_all", 2, r_law_all S⟩]
def r_law_power (S : Sub) : List D → Nat → Out D := evF S (tabOf (c_law_power S)) 4 b_law_power
def N_all_terms : List Str := ["deep", "found", "k", "pairs", "one", "other"]
def b_all_terms_L0 : MB := (.cons (.ext 3 (.lc [5] (.sq (.v 1)) (.c (.bl true)) (.tup (.cons (.v 4) (.cons (.v 5) .nil))))) .nil)
def b_all_terms_L1 : MB := (.cons (.set 3 (.lst .nil)) (.cons (.for_ [4] (.sq (.v 1)) b_all_terms_L0) (.cons (.set 1 (.p2 .add (.p1 .toL (.c (.str "xyz"))) (.v 3))) .nil)))
def b_all_terms : MB := (.cons (.set 1 (.p1 .toL (.c (.str "xyz")))) (.cons (.for_ [2] (.rg (.v 0)) b_all_terms_L1) (.cons (.frz [3] (.ret (.v 1))) .nil)))
def c_all_terms (S : Sub) : List En := []
def r_all_terms (S : Sub) : List D → Nat → Out D := evF S (tabOf (c_all_terms S)) 6 b_all_terms
def N_look_deep : List Str := ["deep"]
def b_look_deep : MB := (.cons (.if_ (.p1 .not_ (.chn .le .le (.c (.int 0)) (.v 0) (.c (.int 2)))) (.cons (.rais "BadNumber") .nil) .nil) .nil)
def c_look_deep (S : Sub) : List En := []
def r_look_deep (S : Sub) : List D → Nat → Out D := evF S (tabOf (c_look_deep S)) 1 b_look_deep
def N_groups : List Str := ["table", "deep", "rows", "found", "term", "row"]
def b_groups_L0 : MB := (.cons (.set 5 (.call "worths" (.cons (.v 0) (.cons (.p1 .len (.c (.str "xyz"))) (.cons (.v 4) .nil))))) (.cons (.dpt 2 (.v 5) (.dge (.v 2) (.v 5) (.p1 .len (.v 2)))) (.cons (.dpt 3 (.call "term_text" (.cons (.v 4) .nil)) (.p2 .idx (.v 2) (.v 5))) .nil)))
def b_groups : MB := (.cons (.dnw 2 true) (.cons (.dnw 3 false) (.cons (.for_ [4] (.sq (.call "all_terms" (.cons (.v 1) .nil))) b_groups_L0) (.cons (.frd 3 (.ret (.v 3))) .nil))))
def c_groups (S : Sub) : List En := [⟨"term_text", 1, r_term_text S⟩, ⟨"worths", 3, r_worths S⟩, ⟨"all_terms", 1, r_all_terms S⟩]
def r_groups (S : Sub) : List D → Nat → Out D := evF S (tabOf (c_groups S)) 6 b_groups
def N_held_many : List Str := ["table", "deep", "counts", "some", "text", "many"]
def b_held_many_L0 : MB := (.cons (.dpt 2 (.p2 .idx (.v 3) (.v 4)) (.p2 .add (.dge (.v 2) (.p2 .idx (.v 3) (.v 4)) (.c (.int 0))) (.c (.int 1)))) .nil)
def b_held_many : MB := (.cons (.ex (.call "look_table" (.cons (.v 0) .nil))) (.cons (.ex (.call "look_deep" (.cons (.v 1) .nil))) (.cons (.dnw 2 false) (.cons (.set 3 (.call "groups" (.cons (.v 0) (.cons (.v 1) .nil)))) (.cons (.for_ [4] (.ks (.v 3)) b_held_many_L0) (.cons (.frd 2 (.ret (.p1 .sum_ (.lc [5] (.vs (.v 2)) (.c (.bl true)) (.p2 .mul (.v 5) (.p2 .sub (.v 5) (.c (.int 1)))))))) .nil))))))
def c_held_many (S : Sub) : List En := [⟨"look_table", 1, r_look_table S⟩, ⟨"look_deep", 1, r_look_deep S⟩, ⟨"groups", 2, r_groups S⟩]
def r_held_many (S : Sub) : List D → Nat → Out D := evF S (tabOf (c_held_many S)) 6 b_held_many
def N_first_parting : List Str := ["one", "other", "deep", "mine", "its", "best", "left", "right", "rank"]
def b_first_parting_L0 : MB := (.cons (.if_ (.p2 .ne (.p2 .eq (.p2 .idx (.v 3) (.v 6)) (.p2 .idx (.v 3) (.v 7))) (.p2 .eq (.p2 .idx (.v 4) (.v 6)) (.p2 .idx (.v 4) (.v 7)))) (.cons (.set 8 (.tup (.cons (.p2 .add (.p1 .len (.v 6)) (.p1 .len (.v 7))) (.cons (.p2 .add (.p2 .add (.v 6) (.c (.str "="))) (.v 7)) .nil)))) (.cons (.set 5 (.ite (.p1 .isN (.v 5)) (.v 8) (.p2 .min2 (.v 5) (.v 8)))) .nil)) .nil) .nil)
def b_first_parting_L1 : MB := (.cons (.for_ [7] (.ks (.v 3)) b_first_parting_L0) .nil)
def b_first_parting : MB := (.cons (.ex (.call "look_table" (.cons (.v 0) .nil))) (.cons (.ex (.call "look_table" (.cons (.v 1) .nil))) (.cons (.ex (.call "look_deep" (.cons (.v 2) .nil))) (.cons (.par 3 4 (.call "groups" (.cons (.v 0) (.cons (.v 2) .nil))) (.call "groups" (.cons (.v 1) (.cons (.v 2) .nil)))) (.cons (.set 5 (.c .non)) (.cons (.for_ [6] (.ks (.v 3)) b_first_parting_L1) (.cons (.ret (.ite (.p1 .isN (.v 5)) (.c .non) (.p2 .idx (.v 5) (.c (.int 1))))) .nil)))))))
def c_first_parting (S : Sub) : List En := [⟨"look_table", 1, r_look_table S⟩, ⟨"look_deep", 1, r_look_deep S⟩, ⟨"groups", 2, r_groups S⟩]
def r_first_parting (S : Sub) : List D → Nat → Out D := evF S (tabOf (c_first_parting S)) 9 b_first_parting
def N_holds_more : List Str := ["one", "other", "deep", "mine", "its", "first", "text"]
def b_holds_more_L0 : MB := (.cons (.dpt 5 (.p2 .idx (.v 3) (.v 6)) (.dge (.v 5) (.p2 .idx (.v 3) (.v 6)) (.v 6))) .nil)
def b_holds_more : MB := (.cons (.ex (.call "look_table" (.cons (.v 0) .nil))) (.cons (.ex (.call "look_table" (.cons (.v 1) .nil))) (.cons (.ex (.call "look_deep" (.cons (.v 2) .nil))) (.cons (.unp [3, 4] (.tup (.cons (.call "groups" (.cons (.v 0) (.cons (.v 2) .nil))) (.cons (.call "groups" (.cons (.v 1) (.cons (.v 2) .nil))) .nil)))) (.cons (.dnw 5 false) (.cons (.for_ [6] (.ks (.v 3)) b_holds_more_L0) (.cons (.ret (.p1 .all_ (.lc [6] (.ks (.v 3)) (.c (.bl true)) (.p2 .eq (.p2 .idx (.v 4) (.v 6)) (.p2 .idx (.v 4) (.p2 .idx (.v 5) (.p2 .idx (.v 3) (.v 6)))))))) .nil)))))))
def c_holds_more (S : Sub) : List En := [⟨"look_table", 1, r_look_table S⟩, ⟨"look_deep", 1, r_look_deep S⟩, ⟨"groups", 2, r_groups S⟩]
def r_holds_more (S : Sub) : List D → Nat → Out D := evF S (tabOf (c_holds_more S)) 7 b_holds_more
def N_law_terms : List Str := ["deep", "found", "k", "some", "one", "other"]
def b_law_terms_L0 : MB := (.cons (.set 3 (.p2 .add (.v 3) (.lc [5] (.sq (.v 1)) (.c (.bl true)) (.tup (.cons (.v 4) (.cons (.v 5) .nil)))))) .nil)
def b_law_terms_L1 : MB := (.cons (.set 3 (.lst (.cons (.c (.str "x")) (.cons (.c (.str "y")) (.cons (.c (.str "z")) .nil))))) (.cons (.for_ [4] (.sq (.v 1)) b_law_terms_L0) (.cons (.set 1 (.v 3)) .nil)))
def b_law_terms : MB := (.cons (.set 1 (.lst (.cons (.c (.str "x")) (.cons (.c (.str "y")) (.cons (.c (.str "z")) .nil))))) (.cons (.for_ [2] (.rg (.v 0)) b_law_terms_L1) (.cons (.ret (.v 1)) .nil)))
def c_law_terms (S : Sub) : List En := []
def r_law_terms (S : Sub) : List D → Nat → Out D := evF S (tabOf (c_law_terms S)) 6 b_law_terms
def N_law_rows : List Str := ["table", "deep", "things", "found", "term", "one"]
def b_law_rows_L0 : MB := (.cons (.dpt 3 (.call "_law_text" (.cons (.v 4) .nil)) (.p1 .toT (.lc [5] (.sq (.v 2)) (.c (.bl true)) (.call "_law_worth" (.cons (.v 0) (.cons (.v 4) (.cons (.v 5) .nil))))))) .nil)
def b_law_rows : MB := (.cons (.set 2 (.call "_law_all" (.cons (.p1 .len (.v 0)) (.cons (.c (.int 3)) .nil)))) (.cons (.dnw 3 false) (.cons (.for_ [4] (.sq (.call "_law_terms" (.cons (.v 1) .nil))) b_law_rows_L0) (.cons (.frd 3 (.ret (.v 3))) .nil))))
def c_law_rows (S : Sub) : List En := [⟨"_law_text", 1, r_law_text S⟩, ⟨"_law_worth", 3, r_law_worth S⟩, ⟨"_law_all", 2, r_law_all S⟩, ⟨"_law_terms", 1, r_law_terms S⟩]
def r_law_rows (S : Sub) : List D → Nat → Out D := evF S (tabOf (c_law_rows S)) 6 b_law_rows
def N_law_first : List Str := ["mine", "its", "best", "left", "right", "is_so", "whole", "rank", "sign"]
def b_law_first_L0 : MB := (.cons (.set 5 (.p2 .eq (.p2 .idx (.v 0) (.v 3)) (.p2 .idx (.v 0) (.v 4)))) (.cons (.if_ (.and (.p2 .ne (.v 3) (.v 4)) (.p2 .ne (.v 5) (.p2 .eq (.p2 .idx (.v 1) (.v 3)) (.p2 .idx (.v 1) (.v 4))))) (.cons (.set 6 (.p2 .add (.p2 .add (.v 3) (.c (.str "="))) (.v 4))) (.cons (.set 7 (.tup (.cons (.p1 .len (.lc [8] (.sq (.v 6)) (.p2 .in_ (.v 8) (.c (.str "xyz"))) (.v 8))) (.cons (.v 6) .nil)))) (.cons (.set 2 (.ite (.p1 .isN (.v 2)) (.v 7) (.p2 .min2 (.v 2) (.v 7)))) .nil))) .nil) .nil))
def b_law_first_L1 : MB := (.cons (.for_ [4] (.ks (.v 0)) b_law_first_L0) .nil)
def b_law_first : MB := (.cons (.set 2 (.c .non)) (.cons (.for_ [3] (.ks (.v 0)) b_law_first_L1) (.cons (.ret (.ite (.p1 .isN (.v 2)) (.c .non) (.p2 .idx (.v 2) (.c (.int 1))))) .nil)))
def c_law_first (S : Sub) : List En := []
def r_law_first (S : Sub) : List D → Nat → Out D := evF S (tabOf (c_law_first S)) 9 b_law_first
def N_law_held : List Str := ["rows", "some", "text", "one", "row"]
def b_law_held : MB := (.cons (.set 1 (.lc [2] (.ks (.v 0)) (.c (.bl true)) (.p2 .idx (.v 0) (.v 2)))) (.cons (.ret (.p1 .sum_ (.lc [4] (.sq (.v 1)) (.c (.bl true)) (.p2 .sub (.p1 .len (.lc [3] (.sq (.v 1)) (.p2 .eq (.v 3) (.v 4)) (.v 3))) (.c (.int 1)))))) .nil))
def c_law_held (S : Sub) : List En := []
def r_law_held (S : Sub) : List D → Nat → Out D := evF S (tabOf (c_law_held S)) 5 b_law_held
def N_law_lost : List Str := ["first", "second", "text", "other"]
def b_law_lost : MB := (.cons (.ret (.p2 .ne (.lc [3] (.ks (.v 0)) (.and (.p2 .eq (.p2 .idx (.v 0) (.v 3)) (.p2 .idx (.v 0) (.v 2))) (.p2 .ne (.p2 .idx (.v 1) (.v 3)) (.p2 .idx (.v 1) (.v 2)))) (.v 3)) (.lst .nil))) .nil)
def c_law_lost (S : Sub) : List En := []
def r_law_lost (S : Sub) : List D → Nat → Out D := evF S (tabOf (c_law_lost S)) 4 b_law_lost
def N_law_copy : List Str := ["thing", "one", "name"]
def b_law_copy : MB := (.cons (.if_ (.p1 .tru (.p1 .isLst (.v 0))) (.cons (.retD (.lc [1] (.sq (.v 0)) (.callD "_law_copy" (.cons (.v 1) .nil)))) .nil) .nil) (.cons (.if_ (.p1 .tru (.p1 .isTup (.v 0))) (.cons (.retD (.tupD (.lc [1] (.sq (.v 0)) (.callD "_law_copy" (.cons (.v 1) .nil))))) .nil) .nil) (.cons (.if_ (.p1 .tru (.p1 .isDct (.v 0))) (.cons (.retD (.chk .bad)) .nil) .nil) (.cons (.retD (.chk (.v 0))) .nil))))
def c_law_copy (S : Sub) : List En := []
def r_law_copy (S : Sub) : List D → Nat → Out D := selfRun S "_law_copy" 1 3 b_law_copy (c_law_copy S) 12
def N_law_spoil : List Str := ["thing", "one", "name"]
def r_law_spoil (S : Sub) : List D → Nat → Out D := fun _ _ => .bad
def N_law_one_c : List Str := ["kind", "some", "table", "parting", "saying"]
def b_law_one_c : MB := (.cons (.set 2 (.p2 .idx (.v 1) (.c (.int 0)))) (.cons (.set 3 (.p2 .idx (.v 1) (.c (.int 4)))) (.cons (.set 4 (.p2 .idx (.v 1) (.c (.int 6)))) (.cons (.if_ (.p2 .eq (.v 0) (.c (.int 26))) (.cons (.retD (.chk (.call "said" (.cons (.v 4) .nil)))) .nil) .nil) (.cons (.if_ (.p2 .eq (.v 0) (.c (.int 27))) (.cons (.retD (.chk (.call "read" (.cons (.c (.str "x=y")) .nil)))) .nil) .nil) (.cons (.if_ (.p2 .eq (.v 0) (.c (.int 28))) (.cons (.retD (.chk (.call "written" (.cons (.v 2) .nil)))) .nil) .nil) (.cons (.if_ (.p2 .eq (.v 0) (.c (.int 29))) (.cons (.retD (.chk (.call "of_two" (.cons (.v 2) (.cons (.c (.int 0)) (.cons (.c (.int 0)) .nil)))))) .nil) .nil) (.cons (.if_ (.p2 .eq (.v 0) (.c (.int 30))) (.cons (.retD (.chk (.call "number_of" (.cons (.v 2) .nil)))) .nil) .nil) (.cons (.if_ (.p2 .eq (.v 0) (.c (.int 31))) (.cons (.retD (.chk (.call "parting_of" (.cons (.v 2) (.cons (.v 2) (.cons (.p2 .mul (.tup (.cons (.c (.int 0)) .nil)) (.p1 .len (.v 2))) .nil)))))) .nil) .nil) (.cons (.if_ (.p2 .eq (.v 0) (.c (.int 32))) (.cons (.retD (.chk (.call "both_met" (.cons (.v 2) (.cons (.v 3) (.cons (.v 3) .nil)))))) .nil) .nil) (.cons (.if_ (.p2 .eq (.v 0) (.c (.int 33))) (.cons (.retD (.chk (.call "table_at" (.cons (.c (.int 2)) (.cons (.c (.int 3)) .nil))))) .nil) .nil) (.cons (.if_ (.p2 .eq (.v 0) (.c (.int 34))) (.cons (.retD (.chk (.call "is_leading" (.cons (.v 2) (.cons (.v 2) (.cons (.p2 .mul (.tup (.cons (.c (.int 0)) .nil)) (.p1 .len (.v 2))) .nil)))))) .nil) .nil) (.cons (.if_ (.p2 .eq (.v 0) (.c (.int 35))) (.cons (.retD (.chk (.call "both_joined" (.cons (.v 2) (.cons (.v 3) (.cons (.v 3) .nil)))))) .nil) .nil) (.cons (.if_ (.p2 .eq (.v 0) (.c (.int 36))) (.cons (.retD (.chk (.call "read" (.cons (.call "said" (.cons (.v 4) .nil)) .nil)))) .nil) .nil) (.cons (.retD (.chk (.c .non))) .nil)))))))))))))))
def c_law_one_c (S : Sub) : List En := [⟨"of_two", 3, r_of_two S⟩, ⟨"number_of", 1, r_number_of S⟩, ⟨"table_at", 2, r_table_at S⟩, ⟨"written", 1, r_written S⟩, ⟨"both_met", 3, r_both_met S⟩, ⟨"both_joined", 3, r_both_joined S⟩, ⟨"is_leading", 3, r_is_leading S⟩, ⟨"parting_of", 3, r_parting_of S⟩, ⟨"said", 1, r_said S⟩, ⟨"read", 1, r_read S⟩]
def r_law_one_c (S : Sub) : List D → Nat → Out D := evF S (tabOf (c_law_one_c S)) 5 b_law_one_c
def N_law_both : List Str := ["which", "table", "one", "other", "caught", "found", "e"]
def b_law_both : MB := (.cons (.set 4 (.c .non)) (.cons (.set 5 (.c .non)) (.cons (.try_ (.cons (.set 5 (.ite (.p2 .eq (.v 0) (.c (.int 0))) (.call "both_met" (.cons (.v 1) (.cons (.v 2) (.cons (.v 3) .nil)))) (.call "both_joined" (.cons (.v 1) (.cons (.v 2) (.cons (.v 3) .nil)))))) .nil) 4 6) (.cons (.ret (.ite (.p1 .isN (.v 4)) (.tup (.cons (.c (.str "found")) (.cons (.v 5) .nil))) (.call "_law_refusal" (.cons (.v 4) .nil)))) .nil))))
def c_law_both (S : Sub) : List En := [⟨"both_met", 3, r_both_met S⟩, ⟨"both_joined", 3, r_both_joined S⟩, ⟨"_law_refusal", 1, r_law_refusal S⟩]
def r_law_both (S : Sub) : List D → Nat → Out D := evF S (tabOf (c_law_both S)) 7 b_law_both
end Ko

namespace Ko
open PySem (Str)
open Mv
def N_law_one : List Str := ["kind", "given", "table", "other", "number", "some"]
def b_law_one : MB := (.cons (.unl [2, 3, 4, 5] (.v 1)) (.cons (.if_ (.p2 .lt (.v 0) (.c (.int 4))) (.cons (.if_ (.p2 .lt (.v 0) (.c (.int 2))) (.cons (.retD (.ite (.p2 .eq (.v 0) (.c (.int 0))) (.chk (.call "row_for" (.cons (.v 2) (.cons (.v 4) (.cons (.v 5) .nil))))) (.callN "made_rows" (.cons (.v 2) (.cons (.v 4) .nil))))) .nil) .nil) (.cons (.retD (.ite (.p2 .eq (.v 0) (.c (.int 2))) (.chk (.call "least_term" (.cons (.v 2) (.cons (.v 4) (.cons (.v 5) .nil))))) (.chk (.call "is_rich" (.cons (.v 2) (.cons (.v 4) .nil)))))) .nil)) .nil) (.cons (.if_ (.p2 .eq (.v 0) (.c (.int 4))) (.cons (.retD (.chk (.call "held_many" (.cons (.v 2) (.cons (.v 4) .nil))))) .nil) .nil) (.cons (.retD (.ite (.p2 .eq (.v 0) (.c (.int 5))) (.chk (.call "first_parting" (.cons (.v 2) (.cons (.v 3) (.cons (.v 4) .nil))))) (.chk (.call "holds_more" (.cons (.v 2) (.cons (.v 3) (.cons (.v 4) .nil))))))) .nil))))
def c_law_one (S : Sub) : List En := [⟨"row_for", 3, r_row_for S⟩, ⟨"made_rows", 2, r_made_rows S⟩, ⟨"least_term", 3, r_least_term S⟩, ⟨"is_rich", 2, r_is_rich S⟩, ⟨"held_many", 2, r_held_many S⟩, ⟨"first_parting", 3, r_first_parting S⟩, ⟨"holds_more", 3, r_holds_more S⟩]
def r_law_one (S : Sub) : List D → Nat → Out D := evF S (tabOf (c_law_one S)) 6 b_law_one
def N_law_told : List Str := ["kind", "some", "caught", "found", "e"]
def b_law_told : MB := (.cons (.set 2 (.c .non)) (.cons (.set 3 (.c .non)) (.tld 3 2 4 (.callD "_law_one" (.cons (.v 0) (.cons (.v 1) .nil))) "found" (.call "_law_refusal" (.cons (.v 2) .nil)))))
def c_law_told (S : Sub) : List En := [⟨"_law_refusal", 1, r_law_refusal S⟩, ⟨"_law_one", 2, r_law_one S⟩]
def r_law_told (S : Sub) : List D → Nat → Out D := evF S (tabOf (c_law_told S)) 5 b_law_told
def N_law : List Str := ["script", "town", "table", "bad", "told", "kind", "far", "great", "letters", "wide", "b", "a", "small", "deep", "odd", "rows", "number", "some", "given", "found", "due"]
def b_law_0 : MS := (.set 2 (.call "_law_table" (.cons (.v 0) (.cons (.v 1) (.cons (.c (.int 6)) .nil)))))
def b_law_1 : MS := (.set 3 (.call "_law_pick" (.cons (.v 0) (.cons (.v 1) (.cons (.lst (.cons (.tup .nil) (.cons (.tup (.cons (.tup (.cons (.c (.int 0)) (.cons (.c (.int 1)) .nil))) (.cons (.tup (.cons (.c (.int 0)) .nil)) .nil))) (.cons (.tup (.cons (.tup (.cons (.c (.int 1)) .nil)) .nil)) (.cons (.tup (.cons (.tup (.cons (.c (.int 0)) (.cons (.c (.int 0)) .nil))) (.cons (.tup (.cons (.c (.int 0)) (.cons (.c (.int 2)) .nil))) .nil))) (.cons (.tup (.cons (.tup (.cons (.p2 .sub (.c (.int 0)) (.c (.int 1))) .nil)) .nil)) (.cons (.p2 .mul (.tup (.cons (.p2 .mul (.tup (.cons (.c (.int 0)) .nil)) (.c (.int 7))) .nil)) (.c (.int 7))) .nil))))))) .nil)))))
def b_law_2 : MS := (.set 4 (.lc [5] (.rg (.c (.int 7))) (.c (.bl true)) (.call "_law_told" (.cons (.v 5) (.cons (.lst (.cons (.v 3) (.cons (.v 2) (.cons (.p2 .sub (.c (.int 0)) (.c (.int 1))) (.cons (.c (.str "w")) .nil))))) .nil)))))
def b_law_3 : MS := (.set 4 (.p2 .add (.v 4) (.lc [5] (.sq (.tup (.cons (.c (.int 5)) (.cons (.c (.int 6)) .nil)))) (.c (.bl true)) (.call "_law_told" (.cons (.v 5) (.cons (.lst (.cons (.v 2) (.cons (.v 3) (.cons (.p2 .sub (.c (.int 0)) (.c (.int 1))) (.cons (.c (.str "w")) .nil))))) .nil))))))
def b_law_4 : MS := (.if_ (.p2 .ne (.v 4) (.p2 .mul (.lst (.cons (.tup (.cons (.c (.str "refused")) (.cons (.c (.str "table")) .nil))) .nil)) (.c (.int 9)))) (.cons (.ret (.c (.bl false))) .nil) .nil)
def b_law_5 : MS := (.set 6 (.call "_law_pick" (.cons (.v 0) (.cons (.v 1) (.cons (.lst (.cons (.c (.int 0)) (.cons (.c (.int 4)) (.cons (.p2 .sub (.c (.int 0)) (.c (.int 1))) (.cons (.c (.int 99)) .nil))))) .nil)))))
def b_law_6 : MS := (.set 4 (.lc [5] (.rg (.c (.int 4))) (.c (.bl true)) (.call "_law_told" (.cons (.v 5) (.cons (.lst (.cons (.v 2) (.cons (.v 2) (.cons (.v 6) (.cons (.c (.str "w")) .nil))))) .nil)))))
def b_law_7 : MS := (.set 4 (.p2 .add (.v 4) (.lc [5] (.sq (.tup (.cons (.c (.int 4)) (.cons (.c (.int 5)) (.cons (.c (.int 6)) .nil))))) (.c (.bl true)) (.call "_law_told" (.cons (.v 5) (.cons (.lst (.cons (.v 2) (.cons (.v 2) (.cons (.call "_law_pick" (.cons (.v 0) (.cons (.v 1) (.cons (.lst (.cons (.c (.int 3)) (.cons (.p2 .sub (.c (.int 0)) (.c (.int 1))) (.cons (.c (.int 99)) .nil)))) .nil)))) (.cons (.c (.str "")) .nil))))) .nil))))))
def b_law_8 : MS := (.if_ (.p2 .ne (.v 4) (.p2 .mul (.lst (.cons (.tup (.cons (.c (.str "refused")) (.cons (.c (.str "number")) .nil))) .nil)) (.c (.int 7)))) (.cons (.ret (.c (.bl false))) .nil) .nil)
def b_law_9 : MS := (.unp [7, 8] (.call "_law_pick" (.cons (.v 0) (.cons (.v 1) (.cons (.lst (.cons (.tup (.cons (.c (.int 3)) (.cons (.c (.int 2)) .nil))) (.cons (.tup (.cons (.c (.int 3)) (.cons (.c (.int 3)) .nil))) (.cons (.tup (.cons (.c (.int 4)) (.cons (.c (.int 2)) .nil))) (.cons (.tup (.cons (.c (.int 5)) (.cons (.c (.int 1)) .nil))) (.cons (.tup (.cons (.c (.int 6)) (.cons (.c (.int 1)) .nil))) (.cons (.tup (.cons (.c (.int 6)) (.cons (.c (.int 3)) .nil))) .nil))))))) .nil)))))
def b_law_10 : MS := (.set 9 (.p1 .toT (.lc [11] (.rg (.v 7)) (.c (.bl true)) (.p1 .toT (.lc [10] (.rg (.v 7)) (.c (.bl true)) (.p2 .min2 (.v 11) (.v 10)))))))
def b_law_11 : MS := (.if_ (.p2 .ne (.lc [5] (.sq (.tup (.cons (.c (.int 1)) (.cons (.c (.int 2)) (.cons (.c (.int 3)) .nil))))) (.c (.bl true)) (.call "_law_told" (.cons (.v 5) (.cons (.lst (.cons (.v 9) (.cons (.v 9) (.cons (.v 8) (.cons (.lst (.cons (.c (.int 0)) (.cons (.c (.int 9)) .nil))) .nil))))) .nil)))) (.p2 .mul (.lst (.cons (.tup (.cons (.c (.str "refused")) (.cons (.c (.str "great")) .nil))) .nil)) (.c (.int 3)))) (.cons (.ret (.c (.bl false))) .nil) .nil)
def b_law_12 : MS := (.set 12 (.p1 .toT (.lc [11] (.rg (.c (.int 2))) (.c (.bl true)) (.p1 .toT (.lc [10] (.rg (.c (.int 2))) (.c (.bl true)) (.p2 .min2 (.v 11) (.v 10)))))))
def b_law_13 : MS := (.set 13 (.tup (.cons (.tup (.cons (.tup (.cons (.tup (.cons (.c (.str "x")) (.cons (.c (.str "x")) .nil))) (.cons (.c (.str "x")) .nil))) (.cons (.c (.str "x")) .nil))) (.cons (.c (.str "x")) .nil))))
def b_law_14 : MS := (.set 14 (.call "_law_pick" (.cons (.v 0) (.cons (.v 1) (.cons (.lst (.cons (.c (.str "z")) (.cons (.tup (.cons (.c (.str "x")) (.cons (.c (.str "z")) .nil))) (.cons (.c (.str "")) (.cons (.c (.str "xy")) (.cons (.tup (.cons (.c (.str "x")) .nil)) (.cons (.tup (.cons (.c (.str "x")) (.cons (.c (.str "y")) (.cons (.c (.str "x")) .nil)))) (.cons (.v 13) .nil)))))))) .nil)))))
def b_law_15 : MS := (.if_ (.p2 .ne (.call "_law_told" (.cons (.c (.int 0)) (.cons (.lst (.cons (.v 12) (.cons (.v 12) (.cons (.c (.int 2)) (.cons (.v 14) .nil))))) .nil))) (.tup (.cons (.c (.str "refused")) (.cons (.c (.str "saying")) .nil)))) (.cons (.ret (.c (.bl false))) .nil) .nil)
def b_law_16 : MS := (.set 15 (.lst (.cons (.lst (.cons (.c (.int 0)) (.cons (.c (.int 1)) (.cons (.c (.int 1)) .nil)))) (.cons (.lst (.cons (.c (.int 0)) (.cons (.c (.int 1)) (.cons (.c (.int 1)) (.cons (.c (.int 2)) .nil))))) (.cons (.lst (.cons (.c (.int 0)) (.cons (.c (.int 1)) (.cons (.c (.int 1)) (.cons (.p2 .sub (.c (.int 0)) (.c (.int 1))) .nil))))) (.cons (.p2 .mul (.lst (.cons (.c (.int 0)) .nil)) (.c (.int 5))) (.cons (.lst .nil) .nil)))))))
def b_law_17 : MS := (.if_ (.p2 .ne (.call "_law_told" (.cons (.c (.int 2)) (.cons (.lst (.cons (.v 12) (.cons (.v 12) (.cons (.c (.int 2)) (.cons (.call "_law_pick" (.cons (.v 0) (.cons (.v 1) (.cons (.v 15) .nil)))) .nil))))) .nil))) (.tup (.cons (.c (.str "refused")) (.cons (.c (.str "number")) .nil)))) (.cons (.ret (.c (.bl false))) .nil) .nil)
def b_law_L0 : MB := (.cons (.set 16 (.p2 .idx (.lst (.cons (.c (.int 2)) (.cons (.c (.int 2)) (.cons (.c (.int 2)) (.cons (.c (.int 2)) (.cons (.c (.int 1)) (.cons (.c (.int 1)) (.cons (.c (.int 1)) .nil)))))))) (.v 5))) (.cons (.set 17 (.ite (.p2 .eq (.v 5) (.c (.int 0))) (.tup (.cons (.c (.str "x")) (.cons (.c (.str "y")) .nil))) (.lst (.cons (.c (.int 0)) (.cons (.c (.int 0)) (.cons (.c (.int 0)) (.cons (.c (.int 1)) .nil))))))) (.cons (.set 18 (.lst (.cons (.v 12) (.cons (.v 12) (.cons (.v 16) (.cons (.call "_law_copy" (.cons (.v 17) .nil)) .nil)))))) (.spl 19 20 (.lst1 (.idx (.callD "_law_told" (.cons (.v 5) (.cons (.v 18) .nil))) 1)) (.cons (.if_ (.or (.p2 .ne (.lst (.cons (.p2 .idx (.call "_law_told" (.cons (.v 5) (.cons (.v 18) .nil))) (.c (.int 1))) .nil)) (.v 20)) (.p2 .ne (.v 18) (.lst (.cons (.v 12) (.cons (.v 12) (.cons (.v 16) (.cons (.v 17) .nil))))))) (.cons (.ret (.c (.bl false))) .nil) .nil) .nil)))))
def b_law_18 : MS := (.for_ [5] (.rg (.c (.int 7))) b_law_L0)
def b_law_19 : MS := (.ret (.c (.bl true)))
def b_law : MB := (.cons b_law_0 (.cons b_law_1 (.cons b_law_2 (.cons b_law_3 (.cons b_law_4 (.cons b_law_5 (.cons b_law_6 (.cons b_law_7 (.cons b_law_8 (.cons b_law_9 (.cons b_law_10 (.cons b_law_11 (.cons b_law_12 (.cons b_law_13 (.cons b_law_14 (.cons b_law_15 (.cons b_law_16 (.cons b_law_17 (.cons b_law_18 (.cons b_law_19 .nil))))))))))))))))))))
def c_law (S : Sub) : List En := [⟨"_law_pick", 3, r_law_pick S⟩, ⟨"_law_table", 3, r_law_table S⟩, ⟨"_law_copy", 1, r_law_copy S⟩, ⟨"_law_spoil", 1, r_law_spoil S⟩, ⟨"_law_told", 2, r_law_told S⟩]
end Ko

/-! # Mp: plain lemmas of the small language -/
namespace Mv
open PySem (Str)
theorem gather_all {f : D → Nat → Out (Option D)} {g : D → D} {n : Nat} : ∀ {xs : List D}, (∀ x ∈ xs, f x n = .ok (some (g x)) n) → gather f xs n = .ok (xs.map g) n
  | [], _ => rfl
  | x :: r, h => by
    simp only [gather, h x List.mem_cons_self, gather_all (fun y hy => h y (List.mem_cons_of_mem _ hy)), List.map_cons]
theorem gather_fil {f : D → Nat → Out (Option D)} {p : D → Bool} {g : D → D} {n : Nat} : ∀ {xs : List D}, (∀ x ∈ xs, f x n = .ok (if p x = true then some (g x) else none) n) → gather f xs n = .ok ((xs.filter p).map g) n
  | [], _ => rfl
  | x :: r, h => by
    simp only [gather, h x List.mem_cons_self, gather_fil (fun y hy => h y (List.mem_cons_of_mem _ hy))]
    cases hp : p x with
    | true => simp [hp]
    | false => simp [hp]
theorem range_map {α : Type} (m : Int) (g : D → α) : (range m).map g = (List.range m.toNat).map fun k => g (.int (k : Nat)) := by
  unfold range; rw [List.map_map]; rfl
theorem range_filter (m : Int) (p : D → Bool) : (range m).filter p = ((List.range m.toNat).filter fun k => p (.int (k : Nat))).map fun k => D.int (k : Nat) := by
  unfold range; rw [List.filter_map]; rfl
theorem mem_range {m : Int} {x : D} (h : x ∈ range m) : ∃ k : Nat, k < m.toNat ∧ x = .int (k : Nat) := by
  unfold range at h
  obtain ⟨k, hk, rfl⟩ := List.mem_map.mp h
  exact ⟨k, List.mem_range.mp hk, rfl⟩
theorem set_none_set {α : Type} (l : List (Option α)) (i : Nat) (d : Option α) : (l.set i none).set i d = l.set i d := List.set_set ..
section
variable {S : Sub} {T : Tab}
/-- [e for i in xs] -/
theorem ev_lc {i : Nat} {a0 : MI} {e : ME} {env : Ev} {n : Nat} {xs : List D} {g : D → D} (ha : evI S T a0 env n = .ok xs n) (h : ∀ x ∈ xs, evE S T e (env.set i (some x)) n = .ok (g x) n) :
    evE S T (.lc [i] a0 (.c (.bl true)) e) env n = .ok (.lst (xs.map g)) n := by
  simp only [evE, ha, Out.bind]
  rw [gather_all (g := g) fun x hx => ?_]
  simp only [turnL, bindT, wipeD, set_none_set, evE, h x hx]
/-- [e for i in xs if t] -/
theorem ev_lcf {i : Nat} {a0 : MI} {t e : ME} {env : Ev} {n : Nat} {xs : List D} {p : D → Bool} {g : D → D} (ha : evI S T a0 env n = .ok xs n) (ht : ∀ x ∈ xs, evE S T t (env.set i (some x)) n = .ok (.bl (p x)) n) (h : ∀ x ∈ xs, p x = true → evE S T e (env.set i (some x)) n = .ok (g x) n) :
    evE S T (.lc [i] a0 t e) env n = .ok (.lst ((xs.filter p).map g)) n := by
  simp only [evE, ha, Out.bind]
  rw [gather_fil (p := p) (g := g) fun x hx => ?_]
  simp only [turnL, bindT, wipeD, set_none_set, ht x hx]
  cases hp : p x with
  | true => simp [h x hx hp]
  | false => simp
theorem ev_rg {a : ME} {env : Ev} {n : Nat} {m : Int} (ha : evE S T a env n = .ok (.int m) n) (hm : m ≤ line) (h0 : 0 ≤ m) : evI S T (.rg a) env n = .ok (range m) n := by
  simp only [evI, ha, Out.bind]
  rw [if_pos ⟨hm, by omega⟩]
theorem ev_sqL {a : ME} {env : Ev} {n : Nat} {xs : List D} (ha : evE S T a env n = .ok (.lst xs) n) : evI S T (.sq a) env n = .ok xs n := by
  simp only [evI, ha, Out.bind, items, Out.lift]
theorem ev_sqT {a : ME} {env : Ev} {n : Nat} {xs : List D} (ha : evE S T a env n = .ok (.tup xs) n) : evI S T (.sq a) env n = .ok xs n := by
  simp only [evI, ha, Out.bind, items, Out.lift]
end
/-- a loop, by what holds before each turn -/
theorem forL_run {tg : List Nat} {b : Ev → Nat → SO} (I : Nat → Ev → Nat → Prop) : ∀ (xs : List D) (i0 : Nat) (env : Ev) (n : Nat), (∀ i x env n, xs[i]? = some x → I (i0 + i) env n → ∃ env1 env2 n2, bindT tg x env = some env1 ∧ b env1 n = .nx env2 n2 ∧ I (i0 + i + 1) env2 n2) → I i0 env n →
    ∃ env' n', forL tg b xs env n = .nx env' n' ∧ I (i0 + xs.length) env' n'
  | [], i0, env, n, _, h => ⟨env, n, rfl, h⟩
  | x :: r, i0, env, n, st, h => by
    obtain ⟨env1, env2, n2, h1, h2, h3⟩ := st 0 x env n rfl h
    obtain ⟨env', n', h4, h5⟩ := forL_run I r (i0 + 1) env2 n2 (fun i y env n hy hI => by
      obtain ⟨a, b, c, p, q, s⟩ := st (i + 1) y env n (by simpa using hy) (by rw [show i0 + (i + 1) = i0 + 1 + i by omega]; exact hI)
      exact ⟨a, b, c, p, q, by rw [show i0 + 1 + i + 1 = i0 + (i + 1) + 1 by omega]; exact s⟩) h3
    refine ⟨env', n', ?_, ?_⟩
    · simp only [forL, h1, ofO, h2, SO.then, h4]
    · rw [List.length_cons, show i0 + (r.length + 1) = i0 + 1 + r.length by omega]; exact h5
theorem range_get {m i : Nat} {x : D} (h : (range (m : Int))[i]? = some x) : i < m ∧ x = .int (i : Nat) := by
  unfold range at h
  rw [List.getElem?_map, Int.toNat_natCast] at h
  obtain ⟨k, h1, h2⟩ := Option.map_eq_some_iff.mp h
  obtain ⟨h3, h4⟩ := List.getElem?_eq_some_iff.mp h1
  rw [List.getElem_range] at h4
  rw [List.length_range] at h3
  subst h4
  exact ⟨h3, h2.symm⟩
theorem range_length (m : Nat) : (range (m : Int)).length = m := by simp [range]
theorem ixN_pos {n : Nat} {i : Int} (h0 : 0 ≤ i) (h1 : i < n) : ixN n i = some i.toNat := by unfold ixN; rw [if_pos h0, if_pos h1]
/-- ints -/
theorem iD_length (ns : List Int) : (iD ns).length = ns.length := List.length_map ..
theorem iD_get {ns : List Int} {j : Nat} (h : j < ns.length) : (iD ns)[j]? = some (.int ns[j]) := by
  unfold iD; rw [List.getElem?_map, List.getElem?_eq_getElem h]; rfl
def rI (m : Nat) : List Int := (List.range m).map fun k : Nat => (k : Int)
theorem range_iD (m : Nat) : range (m : Int) = iD (rI m) := by
  unfold range iD rI; rw [List.map_map]; rfl
theorem rI_length (m : Nat) : (rI m).length = m := by simp [rI]
theorem rI_mem {m : Nat} {k : Int} : k ∈ rI m ↔ 0 ≤ k ∧ k < m := by
  unfold rI
  simp only [List.mem_map, List.mem_range]
  exact ⟨fun ⟨a, h, e⟩ => by omega, fun h => ⟨k.toNat, by omega, by omega⟩⟩
theorem rI_get {m j : Nat} (h : j < m) : (rI m)[j]? = some (j : Int) := by simp [rI, h]
mutual
theorem shp_int (k : Nat) (i : Int) : shp k (.int i) = true := by cases k <;> rfl
end
theorem shpAll_iD (k : Nat) : ∀ ns : List Int, shpAll k (iD ns) = true
  | [] => by simp [iD, shpAll]
  | n :: r => by
    show shpAll k (D.int n :: iD r) = true
    simp only [shpAll, shp_int, shpAll_iD k r, Bool.and_self]
theorem eqvAll_iD : ∀ ns ms : List Int, eqvAll (iD ns) (iD ms) = decide (ns = ms)
  | [], [] => rfl
  | [], _ :: _ => rfl
  | _ :: _, [] => rfl
  | a :: r, b :: s => by
    show eqvAll (D.int a :: iD r) (D.int b :: iD s) = _
    simp only [eqvAll, eqv, eqvAll_iD r s]
    by_cases h : a = b <;> simp [h]
section
variable {S : Sub} {T : Tab}
/-- [k for k in ks if p(k)], whole numbers -/
theorem ev_sel {i : Nat} {a0 : MI} {t : ME} {env : Ev} {n : Nat} {ks : List Int} (p : Int → Bool) (hi : i < env.length) (ha : evI S T a0 env n = .ok (iD ks) n) (ht : ∀ k ∈ ks, evE S T t (env.set i (some (.int k))) n = .ok (.bl (p k)) n) :
    evE S T (.lc [i] a0 t (.v i)) env n = .ok (.lst (iD (ks.filter p))) n := by
  rw [ev_lcf (p := fun d => match d with | .int k => p k | _ => false) (g := id) ha (fun x hx => ?_) (fun x hx _ => ?_), List.map_id]
  · unfold iD; rw [List.filter_map]; rfl
  · obtain ⟨k, hk, rfl⟩ := List.mem_map.mp hx
    exact ht k hk
  · simp only [evE, List.getElem?_set_self hi, id]
/-- [f(k) for k in ks] -/
theorem ev_mapI {i : Nat} {a0 : MI} {e : ME} {env : Ev} {n : Nat} {ks : List Int} (f : Int → D) (ha : evI S T a0 env n = .ok (iD ks) n) (h : ∀ k ∈ ks, evE S T e (env.set i (some (.int k))) n = .ok (f k) n) :
    evE S T (.lc [i] a0 (.c (.bl true)) e) env n = .ok (.lst (ks.map f)) n := by
  rw [ev_lc (g := fun d => match d with | .int k => f k | d => d) ha fun x hx => ?_]
  · unfold iD; rw [List.map_map]; rfl
  · obtain ⟨k, hk, rfl⟩ := List.mem_map.mp hx
    exact h k hk
/-- [f(k) for k in ks if p(k)] -/
theorem ev_fmI {i : Nat} {a0 : MI} {t e : ME} {env : Ev} {n : Nat} {ks : List Int} (p : Int → Bool) (f : Int → D) (ha : evI S T a0 env n = .ok (iD ks) n) (ht : ∀ k ∈ ks, evE S T t (env.set i (some (.int k))) n = .ok (.bl (p k)) n) (h : ∀ k ∈ ks, p k = true → evE S T e (env.set i (some (.int k))) n = .ok (f k) n) :
    evE S T (.lc [i] a0 t e) env n = .ok (.lst ((ks.filter p).map f)) n := by
  rw [ev_lcf (p := fun d => match d with | .int k => p k | _ => false) (g := fun d => match d with | .int k => f k | d => d) ha (fun x hx => ?_) (fun x hx hp => ?_)]
  · unfold iD; rw [List.filter_map, List.map_map]; rfl
  · obtain ⟨k, hk, rfl⟩ := List.mem_map.mp hx
    exact ht k hk
  · obtain ⟨k, hk, rfl⟩ := List.mem_map.mp hx
    exact h k hk hp
theorem bools_map {α : Type} (l : List α) (p : α → Bool) : bools (l.map fun x => D.bl (p x)) = some (l.map p) := by
  induction l with
  | nil => rfl
  | cons a r ih => rw [List.map_cons, bools, ih]; rfl
/-- all([p(k) for k in ks]) -/
theorem ev_allI {i : Nat} {a0 : MI} {e : ME} {env : Ev} {n : Nat} {ks : List Int} (p : Int → Bool) (ha : evI S T a0 env n = .ok (iD ks) n) (h : ∀ k ∈ ks, evE S T e (env.set i (some (.int k))) n = .ok (.bl (p k)) n) :
    evE S T (.p1 .all_ (.lc [i] a0 (.c (.bl true)) e)) env n = .ok (.bl (ks.all p)) n := by
  have e1 := ev_mapI (e := e) (i := i) (fun k => D.bl (p k)) ha h
  have e2 : sem1 S .all_ n (.lst (ks.map fun k => D.bl (p k))) = some (.bl (ks.all p)) := by
    show (bools (ks.map fun k => D.bl (p k))).map (fun bs => D.bl (bs.all id)) = _
    rw [bools_map, Option.map_some, List.all_map]; rfl
  rw [evE.eq_4, e1, Out.bind_ok, e2, Out.lift_some]
/-- over the items f(x) of some list -/
theorem ev_mapX {α : Type} {i : Nat} {a0 : MI} {e : ME} {env : Ev} {n : Nat} {xs : List α} (w : α → D) (f : α → D) (ha : evI S T a0 env n = .ok (xs.map w) n) (h : ∀ x ∈ xs, evE S T e (env.set i (some (w x))) n = .ok (f x) n) :
    evE S T (.lc [i] a0 (.c (.bl true)) e) env n = .ok (.lst (xs.map f)) n := by
  have key : ∀ ys : List α, (∀ x ∈ ys, evE S T e (env.set i (some (w x))) n = .ok (f x) n) → gather (turnL (fun x => bindT [i] x (wipeD env [i])) (evE S T (.c (.bl true))) (evE S T e)) (ys.map w) n = .ok (ys.map f) n := fun ys hy => by
    induction ys with
    | nil => rfl
    | cons y r ih =>
      have e1 : turnL (fun x => bindT [i] x (wipeD env [i])) (evE S T (.c (.bl true))) (evE S T e) (w y) n = .ok (some (f y)) n := by
        simp only [turnL, bindT, wipeD, set_none_set, evE, hy y List.mem_cons_self]
      simp only [List.map_cons, gather, e1, ih fun x hx => hy x (List.mem_cons_of_mem _ hx)]
  have e0 : evE S T (.lc [i] a0 (.c (.bl true)) e) env n = (evI S T a0 env n).bind fun xs n => (gather (turnL (fun x => bindT [i] x (wipeD env [i])) (evE S T (.c (.bl true))) (evE S T e)) xs n).bind fun ys n => .ok (.lst ys) n := by
    rw [evE.eq_15]
  rw [e0, ha, Out.bind_ok, key xs h, Out.bind_ok]
theorem ok_p1 {p : P1} {a : ME} {env : Ev} {n : Nat} {d r : D} (h1 : evE S T a env n = .ok d n) (h2 : sem1 S p n d = some r) : evE S T (.p1 p a) env n = .ok r n := by simp only [evE, h1, h2, Out.bind, Out.lift]
theorem ok_p2 {p : P2} {a b : ME} {env : Ev} {n : Nat} {d e r : D} (h1 : evE S T a env n = .ok d n) (h2 : evE S T b env n = .ok e n) (h3 : sem2 p n d e = some r) : evE S T (.p2 p a b) env n = .ok r n := by simp only [evE, h1, h2, h3, Out.bind, Out.lift]
theorem ok_v {i : Nat} {env : Ev} {n : Nat} {d : D} (h : env[i]? = some (some d)) : evE S T (.v i) env n = .ok d n := by simp only [evE, h]
theorem ok_set {i : Nat} {e : ME} {env : Ev} {n n' : Nat} {d : D} (h : evE S T e env n = .ok d n') : evS S T (.set i e) env n = .nx (env.set i (some d)) n' := by simp only [evS, h, SO.of]
theorem ok_ex {e : ME} {env : Ev} {n n' : Nat} {d : D} (h : evE S T e env n = .ok d n') : evS S T (.ex e) env n = .nx env n' := by simp only [evS, h, SO.of]
theorem ok_ret {e : ME} {env : Ev} {n n' : Nat} {d : D} (h : evE S T e env n = .ok d n') : evS S T (.ret e) env n = .rt d n' := by simp only [evS, h, SO.of]
theorem evB_rt {s : MS} {b : MB} {env : Ev} {n n' : Nat} {d : D} (h : evS S T s env n = .rt d n') : evB S T (.cons s b) env n = .rt d n' := by simp only [evB, h, SO.then]
theorem ok_call1 {f : Str} {run : List D → Nat → Out D} {a : ME} {env : Ev} {n n' : Nat} {d r : D} (hT : T f = some (1, run)) (h1 : evE S T a env n = .ok d n) (h : run [d] n = .ok r n') : evE S T (.call f (.cons a .nil)) env n = .ok r n' := by
  simp only [evE, evA, hT, h1, Out.bind, List.length_cons, List.length_nil, Nat.reduceAdd, if_true, h]
theorem ok_call2 {f : Str} {run : List D → Nat → Out D} {a b : ME} {env : Ev} {n n' : Nat} {d e r : D} (hT : T f = some (2, run)) (h1 : evE S T a env n = .ok d n) (h2 : evE S T b env n = .ok e n) (h : run [d, e] n = .ok r n') : evE S T (.call f (.cons a (.cons b .nil))) env n = .ok r n' := by
  simp only [evE, evA, hT, h1, h2, Out.bind, List.length_cons, List.length_nil, Nat.reduceAdd, if_true, h]
theorem ok_call3 {f : Str} {run : List D → Nat → Out D} {a b c : ME} {env : Ev} {n n' : Nat} {d e g r : D} (hT : T f = some (3, run)) (h1 : evE S T a env n = .ok d n) (h2 : evE S T b env n = .ok e n) (h3 : evE S T c env n = .ok g n) (h : run [d, e, g] n = .ok r n') : evE S T (.call f (.cons a (.cons b (.cons c .nil)))) env n = .ok r n' := by
  simp only [evE, evA, hT, h1, h2, h3, Out.bind, List.length_cons, List.length_nil, Nat.reduceAdd, if_true, h]
theorem ok_if {t : ME} {a b : MB} {env : Ev} {n n' : Nat} {c : Bool} (h : evE S T t env n = .ok (.bl c) n') : evS S T (.if_ t a b) env n = if c = true then evB S T a env n' else evB S T b env n' := by
  cases c <;> simp only [evS, h, SO.of, if_true, Bool.false_eq_true, if_false]
theorem ok_for {tg : List Nat} {it : MI} {b : MB} {env : Ev} {n n' : Nat} {xs : List D} (h : evI S T it env n = .ok xs n') : evS S T (.for_ tg it b) env n = forL tg (evB S T b) xs env n' := by
  simp only [evS, h, SO.of]
end
end Mv

/-! # Mt: rules for walking by hand: each tells the value of one form -/
namespace Mv
open PySem (Str)
/-- the sorted set -/
abbrev ss (l : List Int) : List Int := sortI (once l)
section
variable {S : Sub} {T : Tab} {env : Ev} {n n1 n2 n3 : Nat} {a b c e t : ME} {d d1 d2 d3 r : D} {p q : P2} {p1 : P1}
theorem go_v {i : Nat} (h : env[i]? = some (some d)) : evE S T (.v i) env n = .ok d n := by simp only [evE, h]
theorem go_c : evE S T (.c d) env n = .ok d n := by simp only [evE]
theorem go_p1 (h1 : evE S T a env n = .ok d n1) (h2 : sem1 S p1 n1 d = some r) : evE S T (.p1 p1 a) env n = .ok r n1 := by simp only [evE, h1, h2, Out.bind, Out.lift]
theorem go_p2 (h1 : evE S T a env n = .ok d n1) (h2 : evE S T b env n1 = .ok d1 n2) (h3 : sem2 p n2 d d1 = some r) : evE S T (.p2 p a b) env n = .ok r n2 := by simp only [evE, h1, h2, h3, Out.bind, Out.lift]
theorem go_mt {xs : List D} (h1 : evE S T a env n = .ok (.lst xs) n1) (h2 : evE S T b env n1 = .ok d1 n2) (h3 : sem2 p n2 (.lst xs) d1 = some r) : evE S T (.mt p a b) env n = .ok r n2 := by simp only [evE, h1, h2, h3, Out.bind, Out.lift]
theorem go_chn {x y : Bool} (h1 : evE S T a env n = .ok d n) (h2 : evE S T b env n = .ok d1 n) (h3 : sem2 p n d d1 = some (.bl x)) (h4 : evE S T c env n = .ok d2 n) (h5 : sem2 q n d1 d2 = some (.bl y)) : evE S T (.chn p q a b c) env n = .ok (.bl (x && y)) n := by
  cases x <;> simp only [evE, h1, h2, h3, h4, h5, Out.bind, Out.lift, Bool.true_and, Bool.false_and]
theorem go_and {x y : Bool} (h1 : evE S T a env n = .ok (.bl x) n1) (h2 : x = true → evE S T b env n1 = .ok (.bl y) n1) : evE S T (.and a b) env n = .ok (.bl (x && y)) n1 := by
  cases x
  · simp only [evE, h1, Out.bind, Bool.false_and]
  · simp only [evE, h1, Out.bind, h2 rfl, Bool.true_and]
theorem go_or {x y : Bool} (h1 : evE S T a env n = .ok (.bl x) n1) (h2 : x = false → evE S T b env n1 = .ok (.bl y) n1) : evE S T (.or a b) env n = .ok (.bl (x || y)) n1 := by
  cases x
  · simp only [evE, h1, Out.bind, h2 rfl, Bool.false_or]
  · simp only [evE, h1, Out.bind, Bool.true_or]
theorem go_iteI {x : Bool} {i j : Int} (h1 : evE S T t env n = .ok (.bl x) n1) (h2 : x = true → evE S T a env n1 = .ok (.int i) n1) (h3 : x = false → evE S T b env n1 = .ok (.int j) n1) : evE S T (.ite t a b) env n = .ok (.int (if x = true then i else j)) n1 := by
  cases x
  · simp only [evE, h1, Out.bind, h3 rfl, Bool.false_eq_true, if_false]
  · simp only [evE, h1, Out.bind, h2 rfl, if_true]
theorem go_ite {x : Bool} (h1 : evE S T t env n = .ok (.bl x) n1) (h2 : x = true → evE S T a env n1 = .ok d n1) (h3 : x = false → evE S T b env n1 = .ok d1 n1) : evE S T (.ite t a b) env n = .ok (if x = true then d else d1) n1 := by
  cases x
  · simp only [evE, h1, Out.bind, h3 rfl, Bool.false_eq_true, if_false]
  · simp only [evE, h1, Out.bind, h2 rfl, if_true]
theorem go_iteT (h1 : evE S T t env n = .ok (.bl true) n1) (h2 : evE S T a env n1 = .ok d n2) : evE S T (.ite t a b) env n = .ok d n2 := by simp only [evE, h1, Out.bind, h2]
theorem go_iteF (h1 : evE S T t env n = .ok (.bl false) n1) (h2 : evE S T b env n1 = .ok d n2) : evE S T (.ite t a b) env n = .ok d n2 := by simp only [evE, h1, Out.bind, h2]
/-- values in a row -/
theorem go_nil : evA S T .nil env n = .ok [] n := by simp only [evA]
theorem go_cons {as : MEs} {ds : List D} (h1 : evE S T a env n = .ok d n1) (h2 : evA S T as env n1 = .ok ds n2) : evA S T (.cons a as) env n = .ok (d :: ds) n2 := by simp only [evA, h1, h2, Out.bind]
theorem go_tup {as : MEs} {ds : List D} (h : evA S T as env n = .ok ds n1) (hl : Nat.ble ds.length 1000 = true) : evE S T (.tup as) env n = .ok (.tup ds) n1 := by
  have : line = 16777216 := rfl
  have hl := Nat.le_of_ble_eq_true hl
  have f : fit ds = some ds := by unfold fit; rw [if_pos (by omega)]
  simp only [evE, h, Out.bind, f, Option.map_some, Out.lift]
theorem go_lst {as : MEs} {ds : List D} (h : evA S T as env n = .ok ds n1) (hl : Nat.ble ds.length 1000 = true) : evE S T (.lst as) env n = .ok (.lst ds) n1 := by
  have : line = 16777216 := rfl
  have hl := Nat.le_of_ble_eq_true hl
  have f : fit ds = some ds := by unfold fit; rw [if_pos (by omega)]
  simp only [evE, h, Out.bind, f, Option.map_some, Out.lift]
theorem go_call {f : Str} {as : MEs} {k : Nat} {run : List D → Nat → Out D} {ds : List D} (hT : T f = some (k, run)) (h : evA S T as env n = .ok ds n1) (hk : ds.length = k) (hr : run ds n1 = .ok r n2) : evE S T (.call f as) env n = .ok r n2 := by
  simp only [evE, hT, h, Out.bind, hk, if_true, hr]
theorem go_callX {f : Str} {as : MEs} {k : Nat} {run : List D → Nat → Out D} {ds : List D} {x : Str} (hT : T f = some (k, run)) (h : evA S T as env n = .ok ds n1) (hk : ds.length = k) (hr : run ds n1 = .ex x n2) : evE S T (.call f as) env n = .ex x n2 := by
  simp only [evE, hT, h, Out.bind, hk, if_true, hr]
theorem go_sl {lo hi : ME} {i j : Option Int} (h1 : evE S T a env n = .ok d n) (h2 : evE S T lo env n = .ok d1 n) (h3 : partOf (isAbs lo) d1 = some i) (h4 : evE S T hi env n = .ok d2 n) (h5 : partOf (isAbs hi) d2 = some j) (h6 : semSl d i j = some r) : evE S T (.sl a lo hi) env n = .ok r n := by
  simp only [evE, h1, h2, h3, h4, h5, h6, Out.bind, Out.lift]
/-- iterators -/
theorem gi_rg {m : Nat} (h : evE S T a env n = .ok (.int (m : Nat)) n1) (hm : m ≤ 16777216) : evI S T (.rg a) env n = .ok ((rI m).map D.int) n1 := by
  have : line = 16777216 := rfl
  simp only [evI, h, Out.bind]
  rw [if_pos ⟨by omega, by omega⟩, range_iD]
theorem gi_sqL {xs : List D} (h : evE S T a env n = .ok (.lst xs) n1) : evI S T (.sq a) env n = .ok xs n1 := by simp only [evI, h, Out.bind, items, Out.lift]
theorem gi_sqT {xs : List D} (h : evE S T a env n = .ok (.tup xs) n1) : evI S T (.sq a) env n = .ok xs n1 := by simp only [evI, h, Out.bind, items, Out.lift]
/-- comprehensions -/
theorem gather_map {α : Type} {w : α → D} {p : α → Bool} {g : α → D} {f : D → Nat → Out (Option D)} : ∀ (xs : List α), (∀ x ∈ xs, f (w x) n = .ok (if p x = true then some (g x) else none) n) → gather f (xs.map w) n = .ok ((xs.filter p).map g) n
  | [], _ => rfl
  | x :: r, h => by
    simp only [List.map_cons, gather, h x List.mem_cons_self, gather_map r fun y hy => h y (List.mem_cons_of_mem _ hy)]
    cases hp : p x with
    | true => simp [hp]
    | false => simp [hp]
theorem go_lc {α : Type} {i : Nat} {a0 : MI} {xs : List α} {w f : α → D} (ha : evI S T a0 env n = .ok (xs.map w) n1) (h : ∀ x ∈ xs, evE S T e (env.set i (some (w x))) n1 = .ok (f x) n1) :
    evE S T (.lc [i] a0 (.c (.bl true)) e) env n = .ok (.lst (xs.map f)) n1 := by
  simp only [evE, ha, Out.bind]
  rw [gather_map (p := fun _ => true) (g := f) xs fun x hx => ?_]
  · rw [List.filter_eq_self.mpr (by simp)]
  · simp only [turnL, bindT, wipeD, set_none_set, evE, h x hx, if_true]
theorem go_lcF {α : Type} {i : Nat} {a0 : MI} {xs : List α} {w f : α → D} {p : α → Bool} (ha : evI S T a0 env n = .ok (xs.map w) n1) (ht : ∀ x ∈ xs, evE S T t (env.set i (some (w x))) n1 = .ok (.bl (p x)) n1) (h : ∀ x ∈ xs, p x = true → evE S T e (env.set i (some (w x))) n1 = .ok (f x) n1) :
    evE S T (.lc [i] a0 t e) env n = .ok (.lst ((xs.filter p).map f)) n1 := by
  simp only [evE, ha, Out.bind]
  rw [gather_map (p := p) (g := f) xs fun x hx => ?_]
  simp only [turnL, bindT, wipeD, set_none_set, ht x hx]
  cases hp : p x with
  | true => simp [h x hx hp]
  | false => simp
/-- two names at once -/
theorem go_lc2 {α : Type} {i j : Nat} {a0 : MI} {xs : List α} {u v f : α → D} (ha : evI S T a0 env n = .ok (xs.map fun x => .tup [u x, v x]) n1) (h : ∀ x ∈ xs, evE S T e (((wipeD env [i, j]).set i (some (u x))).set j (some (v x))) n1 = .ok (f x) n1) :
    evE S T (.lc [i, j] a0 (.c (.bl true)) e) env n = .ok (.lst (xs.map f)) n1 := by
  simp only [evE, ha, Out.bind]
  rw [gather_map (w := fun x => .tup [u x, v x]) (p := fun _ => true) (g := f) xs fun x hx => ?_]
  · rw [List.filter_eq_self.mpr (by simp)]
  · simp only [turnL, bindT, evE, h x hx, if_true]
/-! ### statements -/
variable {s : MS} {B B1 B2 : MB} {env' env2 : Ev} {o : SO}
theorem gb_nil : evB S T .nil env n = .nx env n := by simp only [evB]
theorem gb_nx (h : evS S T s env n = .nx env' n1) (h2 : evB S T B env' n1 = o) : evB S T (.cons s B) env n = o := by simp only [evB, h, SO.then, h2]
theorem gb_rt (h : evS S T s env n = .rt d n1) : evB S T (.cons s B) env n = .rt d n1 := by simp only [evB, h, SO.then]
theorem gb_ex {x : Str} (h : evS S T s env n = .ex x n1 env') : evB S T (.cons s B) env n = .ex x n1 env' := by simp only [evB, h, SO.then]
theorem gs_set {i : Nat} (h : evE S T e env n = .ok d n1) (h2 : env.set i (some d) = env') : evS S T (.set i e) env n = .nx env' n1 := by subst h2; simp only [evS, h, SO.of]
theorem gs_ex (h : evE S T e env n = .ok d n1) : evS S T (.ex e) env n = .nx env n1 := by simp only [evS, h, SO.of]
theorem gs_exX {x : Str} (h : evE S T e env n = .ex x n1) : evS S T (.ex e) env n = .ex x n1 env := by simp only [evS, h, SO.of]
theorem gs_setX {x : Str} {i : Nat} (h : evE S T e env n = .ex x n1) : evS S T (.set i e) env n = .ex x n1 env := by simp only [evS, h, SO.of]
theorem gs_ret (h : evE S T e env n = .ok d n1) : evS S T (.ret e) env n = .rt d n1 := by simp only [evS, h, SO.of]
theorem gs_retX {x : Str} (h : evE S T e env n = .ex x n1) : evS S T (.ret e) env n = .ex x n1 env := by simp only [evS, h, SO.of]
theorem gs_rais {x : Str} : evS S T (.rais x) env n = .ex x n env := by simp only [evS]
theorem gs_ifT (h : evE S T t env n = .ok (.bl true) n1) (h2 : evB S T B1 env n1 = o) : evS S T (.if_ t B1 B2) env n = o := by simp only [evS, h, SO.of, h2]
theorem gs_ifF (h : evE S T t env n = .ok (.bl false) n1) (h2 : evB S T B2 env n1 = o) : evS S T (.if_ t B1 B2) env n = o := by simp only [evS, h, SO.of, h2]
theorem gs_if {x : Bool} {o1 o2 : SO} (h : evE S T t env n = .ok (.bl x) n1) (h1 : x = true → evB S T B1 env n1 = o1) (h2 : x = false → evB S T B2 env n1 = o2) : evS S T (.if_ t B1 B2) env n = if x = true then o1 else o2 := by
  cases x
  · simp only [evS, h, SO.of, h2 rfl, Bool.false_eq_true, if_false]
  · simp only [evS, h, SO.of, h1 rfl, if_true]
theorem gs_frzR {js : List Nat} (h : evS S T s env n = .rt d n1) : evS S T (.frz js s) env n = .rt d n1 := by simp only [evS, h]
theorem gs_frzN {js : List Nat} (h : evS S T s env n = .nx env' n1) (h2 : wipeD env' js = env2) : evS S T (.frz js s) env n = .nx env2 n1 := by subst h2; simp only [evS, h]
theorem gs_frzX {js : List Nat} {x : Str} (h : evS S T s env n = .ex x n1 env') (h2 : wipeD env' js = env2) : evS S T (.frz js s) env n = .ex x n1 env2 := by subst h2; simp only [evS, h]
theorem gs_app {i : Nat} {xs : List D} (h0 : getL env i = some xs) (h : evE S T e env n = .ok d n1) (hl : xs.length < 16777216) (h2 : env.set i (some (.lst (xs ++ [d]))) = env') : evS S T (.app i e) env n = .nx env' n1 := by
  have hl : xs.length < line := hl
  subst h2; simp only [evS, h0, ofO, h, SO.of, if_pos hl, putL]
theorem gs_ext {i : Nat} {xs ys : List D} (h0 : getL env i = some xs) (h : evE S T e env n = .ok (.lst ys) n1) (hl : xs.length + ys.length ≤ 16777216) (h2 : env.set i (some (.lst (xs ++ ys))) = env') : evS S T (.ext i e) env n = .nx env' n1 := by
  have hl : xs.length + ys.length ≤ line := hl
  subst h2; simp only [evS, h0, ofO, h, SO.of, if_pos hl, putL]
theorem gs_unp {is : List Nat} (h : evE S T e env n = .ok d n1) (h2 : bindT is d env = some env') : evS S T (.unp is e) env n = .nx env' n1 := by simp only [evS, h, SO.of, h2, ofO]
theorem gs_for {tg : List Nat} {it : MI} {xs : List D} (h : evI S T it env n = .ok xs n1) (h2 : forL tg (evB S T B) xs env n1 = o) : evS S T (.for_ tg it B) env n = o := by simp only [evS, h, SO.of, h2]
theorem gs_whl {f : Nat} (h2 : whlL (evE S T t) (evB S T B) f env n = o) : evS S T (.whl f t B) env n = o := by simp only [evS, h2]
theorem gs_tryN {i j : Nat} (h : evB S T B env n = .nx env' n1) : evS S T (.try_ B i j) env n = .nx env' n1 := by simp only [evS, h]
theorem gs_tryX {i j : Nat} {x : Str} (h : evB S T B env n = .ex x n1 env') (hx : S x "RuleError" = true) (h2 : (env'.set i (some (.exc x))).set j none = env2) : evS S T (.try_ B i j) env n = .nx env2 n1 := by subst h2; simp only [evS, h, hx, if_true]
/-- a def -/
theorem gf_rt {size : Nat} {ds : List D} (h : evB S T B (ds.map some ++ List.replicate (size - ds.length) none) n = .rt d n1) : evF S T size B ds n = .ok d n1 := by simp only [evF, h]
theorem gf_ex {size : Nat} {ds : List D} {x : Str} (h : evB S T B (ds.map some ++ List.replicate (size - ds.length) none) n = .ex x n1 env') : evF S T size B ds n = .ex x n1 := by simp only [evF, h]
theorem gf_nx {size : Nat} {ds : List D} (h : evB S T B (ds.map some ++ List.replicate (size - ds.length) none) n = .nx env' n1) : evF S T size B ds n = .ok .non n1 := by simp only [evF, h]
/-- a loop that goes through: the state is told by σ -/
theorem gl_fold {α σ : Type} {tg : List Nat} {b : Ev → Nat → SO} {w : α → D} (E : σ → Ev) (g : σ → α → σ) (I : σ → Prop) {xs : List α} (step : ∀ s x, x ∈ xs → I s → ∃ env1, bindT tg (w x) (E s) = some env1 ∧ b env1 n = .nx (E (g s x)) n ∧ I (g s x)) : ∀ (s0 : σ), I s0 → forL tg b (xs.map w) (E s0) n = .nx (E (xs.foldl g s0)) n ∧ I (xs.foldl g s0) := by
  induction xs with
  | nil => exact fun s0 h => ⟨rfl, h⟩
  | cons x r ih =>
    intro s0 h
    obtain ⟨env1, h1, h2, h3⟩ := step s0 x List.mem_cons_self h
    have := ih (fun s y hy hs => step s y (List.mem_cons_of_mem _ hy) hs) (g s0 x) h3
    simp only [List.map_cons, forL, h1, ofO, h2, SO.then, List.foldl_cons]
    exact this
/-- a loop that looks for something and else leaves all but its own names -/
theorem gl_find {α : Type} {tg : List Nat} {b : Ev → Nat → SO} {w : α → D} {ε : Type} (E : ε → Ev) (q : α → Option D) {xs : List α} (step : ∀ s x, x ∈ xs → ∃ env1 s', bindT tg (w x) (E s) = some env1 ∧ b env1 n = match q x with | some d => .rt d n | none => .nx (E s') n) : ∀ (s0 : ε), ∃ s', forL tg b (xs.map w) (E s0) n = match xs.findSome? q with | some d => .rt d n | none => .nx (E s') n := by
  induction xs with
  | nil => exact fun s0 => ⟨s0, rfl⟩
  | cons x r ih =>
    intro s0
    obtain ⟨env1, s1, h1, h2⟩ := step s0 x List.mem_cons_self
    obtain ⟨s', h3⟩ := ih (fun s y hy => step s y (List.mem_cons_of_mem _ hy)) s1
    simp only [List.map_cons, forL, h1, ofO, h2, List.findSome?_cons]
    cases q x with
    | some d => exact ⟨s', rfl⟩
    | none => exact ⟨s', h3⟩
/-- a loop that asks of each, and ends with d at the first that is not so -/
theorem gl_all {α : Type} {tg : List Nat} {b : Ev → Nat → SO} {w : α → D} {ε : Type} {d : D} (E : ε → Ev) (p : α → Bool) {xs : List α} (step : ∀ s x, x ∈ xs → ∃ env1 s', bindT tg (w x) (E s) = some env1 ∧ b env1 n = if p x = true then .nx (E s') n else .rt d n) : ∀ (s0 : ε), ∃ s', forL tg b (xs.map w) (E s0) n = if xs.all p = true then .nx (E s') n else .rt d n := by
  induction xs with
  | nil => exact fun s0 => ⟨s0, rfl⟩
  | cons x r ih =>
    intro s0
    obtain ⟨env1, s1, h1, h2⟩ := step s0 x List.mem_cons_self
    obtain ⟨s', h3⟩ := ih (fun s y hy => step s y (List.mem_cons_of_mem _ hy)) s1
    simp only [List.map_cons, forL, h1, ofO, h2, List.all_cons]
    refine ⟨s', ?_⟩
    by_cases hp : p x = true
    · simp only [hp, if_true, Bool.true_and, SO.then]; exact h3
    · have hp : p x = false := Bool.eq_false_iff.mpr hp
      simp only [hp, Bool.false_and, Bool.false_eq_true, if_false, SO.then]
/-- a loop that puts more behind a list -/
theorem gl_ext {α β ε : Type} {tg : List Nat} {b : Ev → Nat → SO} {w : α → D} (E : List β → ε → Ev) (f : α → List β) (B : Nat) {xs : List α} (step : ∀ x ∈ xs, ∀ acc o, acc.length + (f x).length ≤ B → ∃ env1 o', bindT tg (w x) (E acc o) = some env1 ∧ b env1 n = .nx (E (acc ++ f x) o') n) : ∀ acc o, acc.length + (xs.flatMap f).length ≤ B → ∃ o', forL tg b (xs.map w) (E acc o) n = .nx (E (acc ++ xs.flatMap f) o') n := by
  induction xs with
  | nil => exact fun acc o _ => ⟨o, by simp [forL]⟩
  | cons x r ih =>
    intro acc o hB
    rw [List.flatMap_cons, List.length_append] at hB
    obtain ⟨env1, o1, h1, h2⟩ := step x List.mem_cons_self acc o (by omega)
    obtain ⟨o2, h3⟩ := ih (fun y hy => step y (List.mem_cons_of_mem _ hy)) (acc ++ f x) o1 (by rw [List.length_append]; omega)
    refine ⟨o2, ?_⟩
    simp only [List.map_cons, forL, h1, ofO, h2, SO.then, h3, List.flatMap_cons, List.append_assoc]
/-- a loop by its stages -/
theorem gl_iter {β ε : Type} {tg : List Nat} {b : Ev → Nat → SO} {m : Nat} (E : β → ε → Ev) (F : Nat → β) (step : ∀ i, i < m → ∀ o, ∃ env1 o', bindT tg (.int (i : Nat)) (E (F i) o) = some env1 ∧ b env1 n = .nx (E (F (i + 1)) o') n) (o : ε) : ∃ o', forL tg b ((rI m).map D.int) (E (F 0) o) n = .nx (E (F m) o') n := by
  have := forL_run (tg := tg) (b := b) (fun i env k => k = n ∧ i ≤ m ∧ ∃ o, env = E (F i) o) ((rI m).map D.int) 0 (E (F 0) o) n
    (fun i x env k hx hI => by
      obtain ⟨rfl, hi, o, rfl⟩ := hI
      have hx : (range (m : Nat))[i]? = some x := by rw [range_iD]; exact hx
      obtain ⟨him, rfl⟩ := range_get hx
      obtain ⟨env1, o', h1, h2⟩ := step i him o
      exact ⟨env1, _, k, by rw [Nat.zero_add]; exact h1, h2, rfl, by omega, o', by rw [Nat.zero_add]⟩) ⟨rfl, Nat.zero_le _, o, rfl⟩
  obtain ⟨env', n', h1, rfl, _, o', rfl⟩ := this
  refine ⟨o', ?_⟩
  rw [h1, List.length_map, rI_length, Nat.zero_add]
/-- a loop that goes through -/
theorem gl_thru {α ε : Type} {tg : List Nat} {b : Ev → Nat → SO} {w : α → D} (E : ε → Ev) {xs : List α} (step : ∀ x ∈ xs, ∀ o, ∃ env1 o', bindT tg (w x) (E o) = some env1 ∧ b env1 n = .nx (E o') n) : ∀ o, ∃ o', forL tg b (xs.map w) (E o) n = .nx (E o') n := by
  induction xs with
  | nil => exact fun o => ⟨o, rfl⟩
  | cons x r ih =>
    intro o
    obtain ⟨env1, o1, h1, h2⟩ := step x List.mem_cons_self o
    obtain ⟨o2, h3⟩ := ih (fun y hy => step y (List.mem_cons_of_mem _ hy)) o1
    exact ⟨o2, by simp only [List.map_cons, forL, h1, ofO, h2, SO.then, h3]⟩
/-! ### what the prims tell -/
variable {i j : Int} {xs ys : List D} {ks ls : List Int} {x y : Bool}
theorem z_len_rI {m : Nat} : sem1 S .len n (.lst ((rI m).map D.int)) = some (.int (m : Nat)) := by
  show some (D.int ((rI m).map D.int).length) = _
  rw [List.length_map, rI_length]
theorem z_lenL {α : Type} {l : List α} {w : α → D} : sem1 S .len n (.lst (l.map w)) = some (.int (l.length : Nat)) := by
  show some (D.int (l.map w).length) = _
  rw [List.length_map]
theorem z_lenT {α : Type} {l : List α} {w : α → D} : sem1 S .len n (.tup (l.map w)) = some (.int (l.length : Nat)) := by
  show some (D.int (l.map w).length) = _
  rw [List.length_map]
theorem z_all {α : Type} {l : List α} {w : α → Bool} : sem1 S .all_ n (.lst (l.map fun x => .bl (w x))) = some (.bl (l.all w)) := by
  show (bools _).map _ = _
  rw [bools_map, Option.map_some, List.all_map]; rfl
theorem z_any {α : Type} {l : List α} {w : α → Bool} : sem1 S .any_ n (.lst (l.map fun x => .bl (w x))) = some (.bl (l.any w)) := by
  show (bools _).map _ = _
  rw [bools_map, Option.map_some, List.any_map]; rfl
theorem intsOf_map {α : Type} (l : List α) (w : α → Int) : intsOf (l.map fun x => .int (w x)) = some (l.map w) := by
  induction l with
  | nil => rfl
  | cons a r ih => rw [List.map_cons, intsOf, ih]; rfl
theorem intsOf_iD (l : List Int) : intsOf (l.map D.int) = some l := by
  have := intsOf_map l id
  simpa using this
theorem z_srt : sem1 S .srt n (.lst (ks.map D.int)) = some (.lst ((sortI ks).map D.int)) := by
  show sortD _ = _
  unfold sortD
  rw [intsOf_iD]
theorem z_ssetL {α : Type} {l : List α} {w : α → Int} (h : l.length ≤ 60) : sem1 S .sset n (.lst (l.map fun x => .int (w x))) = some (.lst ((ss (l.map w)).map D.int)) := by
  show (intsOf _).bind _ = _
  rw [intsOf_map, Option.bind_some, if_pos (by simpa using h)]
theorem z_ssetT {α : Type} {l : List α} {w : α → Int} (h : l.length ≤ 60) : sem1 S .sset n (.tup (l.map fun x => .int (w x))) = some (.lst ((ss (l.map w)).map D.int)) := by
  show (intsOf _).bind _ = _
  rw [intsOf_map, Option.bind_some, if_pos (by simpa using h)]
theorem z_ssetLi (h : ks.length ≤ 60) : sem1 S .sset n (.lst (ks.map D.int)) = some (.lst ((ss ks).map D.int)) := by
  show (intsOf _).bind _ = _
  rw [intsOf_iD, Option.bind_some, if_pos h]
theorem z_ssetTi (h : ks.length ≤ 60) : sem1 S .sset n (.tup (ks.map D.int)) = some (.lst ((ss ks).map D.int)) := by
  show (intsOf _).bind _ = _
  rw [intsOf_iD, Option.bind_some, if_pos h]
theorem z_lsetL (h : ks.length ≤ 60) : sem1 S .lset n (.lst (ks.map D.int)) = some (.int ((once ks).length : Nat)) := by
  show (intsOf _).bind _ = _
  rw [intsOf_iD, Option.bind_some, if_pos h]
theorem z_lsetT (h : ks.length ≤ 60) : sem1 S .lset n (.tup (ks.map D.int)) = some (.int ((once ks).length : Nat)) := by
  show (intsOf _).bind _ = _
  rw [intsOf_iD, Option.bind_some, if_pos h]
theorem z_rngL {m : Nat} (h : m ≤ 16777216) : sem1 S .rngL n (.int (m : Nat)) = some (.lst ((rI m).map D.int)) := by
  have hl : line = 16777216 := rfl
  show (if ((m : Nat) : Int) ≤ line ∧ -(2 ^ 62) ≤ ((m : Nat) : Int) then some (D.lst (range (m : Nat))) else none) = _
  rw [if_pos ⟨by omega, by omega⟩, range_iD]
theorem z_rngT {m : Nat} (h : m ≤ 16777216) : sem1 S .rngT n (.int (m : Nat)) = some (.tup ((rI m).map D.int)) := by
  have hl : line = 16777216 := rfl
  show (if ((m : Nat) : Int) ≤ line ∧ -(2 ^ 62) ≤ ((m : Nat) : Int) then some (D.tup (range (m : Nat))) else none) = _
  rw [if_pos ⟨by omega, by omega⟩, range_iD]
theorem z_tru : sem1 S .tru n (.bl x) = some (.bl x) := rfl
theorem z_truL {α : Type} {l : List α} {w : α → D} : sem1 S .tru n (.lst (l.map w)) = some (.bl (!l.isEmpty)) := by cases l <;> rfl
theorem z_add : sem2 .add n (.int i) (.int j) = some (.int (i + j)) := rfl
theorem z_sub : sem2 .sub n (.int i) (.int j) = some (.int (i - j)) := rfl
theorem z_mul (h : -(2 ^ 64) < i ∧ i < 2 ^ 64) : sem2 .mul n (.int i) (.int j) = some (.int (i * j)) := by
  show (if _ then _ else _) = _
  rw [if_pos (.inl h)]
theorem z_mulLr {k : Int} (h : k < 2 ^ 63 ∧ -(2 ^ 63) ≤ k ∧ xs.length * k.toNat ≤ 16777216) : sem2 .mul n (.lst xs) (.int k) = some (.lst (List.replicate k.toNat xs).flatten) := by
  have h : k < 2 ^ 63 ∧ -(2 ^ 63) ≤ k ∧ xs.length * k.toNat ≤ line := h
  show (if _ then _ else _) = _
  rw [if_pos h]
theorem z_mulR (h : -(2 ^ 64) < j ∧ j < 2 ^ 64) : sem2 .mul n (.int i) (.int j) = some (.int (i * j)) := by
  show (if _ then _ else _) = _
  rw [if_pos (.inr h)]
theorem z_mod (h : 0 < j) : sem2 .mod n (.int i) (.int j) = some (.int (i % j)) := by
  show (if _ then _ else _) = _
  rw [if_pos h]
theorem z_fdiv (h : 0 < j) (h2 : j < 1073741824) : sem2 .fdiv n (.int i) (.int j) = some (.int (i / j)) := by
  show (if _ then _ else _) = _
  rw [if_pos ⟨h, h2⟩]
theorem z_addL {α : Type} {l1 l2 : List α} {w : α → D} (h : l1.length + l2.length ≤ 16777216) : sem2 .add n (.lst (l1.map w)) (.lst (l2.map w)) = some (.lst ((l1 ++ l2).map w)) := by
  show (if (l1.map w).length + (l2.map w).length ≤ line then _ else _) = _
  rw [if_pos (by simp only [List.length_map]; exact h), List.map_append]
theorem z_addLi (h : ks.length + 1 ≤ 16777216) : sem2 .add n (.lst (ks.map D.int)) (.lst [.int j]) = some (.lst ((ks ++ [j]).map D.int)) := by
  show (if (ks.map D.int).length + 1 ≤ line then _ else _) = _
  rw [if_pos (by simp only [List.length_map]; exact h), List.map_append]; rfl
theorem z_addTi (h : ks.length + 1 ≤ 16777216) : sem2 .add n (.tup (ks.map D.int)) (.tup [.int j]) = some (.tup ((ks ++ [j]).map D.int)) := by
  show (if (ks.map D.int).length + 1 ≤ line then _ else _) = _
  rw [if_pos (by simp only [List.length_map]; exact h), List.map_append]; rfl
theorem z_addLw {α β : Type} {l1 : List α} {l2 : List β} {f : α → Int} {g : β → Int} (h : l1.length + l2.length ≤ 16777216) : sem2 .add n (.lst (l1.map fun x => .int (f x))) (.lst (l2.map fun x => .int (g x))) = some (.lst ((l1.map f ++ l2.map g).map D.int)) := by
  show (if (l1.map fun x => D.int (f x)).length + (l2.map fun x => D.int (g x)).length ≤ line then _ else _) = _
  rw [if_pos (by simp only [List.length_map]; exact h), List.map_append, List.map_map, List.map_map]; rfl
theorem z_addLL (h : xs.length + ys.length ≤ 16777216) : sem2 .add n (.lst xs) (.lst ys) = some (.lst (xs ++ ys)) := by
  have h : xs.length + ys.length ≤ line := h
  show (if xs.length + ys.length ≤ line then _ else _) = _
  rw [if_pos h]
theorem z_addTT (h : xs.length + ys.length ≤ 16777216) : sem2 .add n (.tup xs) (.tup ys) = some (.tup (xs ++ ys)) := by
  have h : xs.length + ys.length ≤ line := h
  show (if xs.length + ys.length ≤ line then _ else _) = _
  rw [if_pos h]
theorem z_eqI : sem2 .eq n (.int i) (.int j) = some (.bl (decide (i = j))) := by
  show some (D.bl (i == j)) = _
  by_cases h : i = j <;> simp [h]
theorem z_neI : sem2 .ne n (.int i) (.int j) = some (.bl (!decide (i = j))) := by
  show some (D.bl (!(i == j))) = _
  by_cases h : i = j <;> simp [h]
theorem z_lt : sem2 .lt n (.int i) (.int j) = some (.bl (decide (i < j))) := rfl
theorem z_le : sem2 .le n (.int i) (.int j) = some (.bl (decide (i ≤ j))) := rfl
theorem z_gt : sem2 .gt n (.int i) (.int j) = some (.bl (decide (j < i))) := rfl
theorem z_ge : sem2 .ge n (.int i) (.int j) = some (.bl (decide (j ≤ i))) := rfl
theorem z_ixLi (h0 : 0 ≤ i) (h1 : i < ks.length) : sem2 .idx n (.lst (ks.map D.int)) (.int i) = some (.int (ks.getD i.toNat 0)) := by
  show (ixN (ks.map D.int).length i).bind _ = _
  rw [List.length_map, ixN_pos h0 h1, Option.bind_some, List.getElem?_map, List.getD_eq_getElem?_getD, List.getElem?_eq_getElem (by omega)]; rfl
theorem z_ixTi (h0 : 0 ≤ i) (h1 : i < ks.length) : sem2 .idx n (.tup (ks.map D.int)) (.int i) = some (.int (ks.getD i.toNat 0)) := by
  show (ixN (ks.map D.int).length i).bind _ = _
  rw [List.length_map, ixN_pos h0 h1, Option.bind_some, List.getElem?_map, List.getD_eq_getElem?_getD, List.getElem?_eq_getElem (by omega)]; rfl
theorem z_ixL {α : Type} [Inhabited α] {l : List α} {w : α → D} (h0 : 0 ≤ i) (h1 : i < l.length) : sem2 .idx n (.lst (l.map w)) (.int i) = some (w (l.getD i.toNat default)) := by
  show (ixN (l.map w).length i).bind _ = _
  rw [List.length_map, ixN_pos h0 h1, Option.bind_some, List.getElem?_map, List.getD_eq_getElem?_getD, List.getElem?_eq_getElem (by omega)]; rfl
theorem z_ixT {α : Type} [Inhabited α] {l : List α} {w : α → D} (h0 : 0 ≤ i) (h1 : i < l.length) : sem2 .idx n (.tup (l.map w)) (.int i) = some (w (l.getD i.toNat default)) := by
  show (ixN (l.map w).length i).bind _ = _
  rw [List.length_map, ixN_pos h0 h1, Option.bind_some, List.getElem?_map, List.getD_eq_getElem?_getD, List.getElem?_eq_getElem (by omega)]; rfl
theorem any_iD (ns : List Int) (k : Int) : ((ns.map D.int).any fun y => eqv y (.int k)) = decide (k ∈ ns) := by
  induction ns with
  | nil => rfl
  | cons a r ih =>
    show (eqv (.int a) (.int k) || (r.map D.int).any fun y => eqv y (.int k)) = _
    rw [ih]
    by_cases h : a = k
    · subst h; simp [eqv]
    · have h' : ¬ k = a := fun e => h e.symm
      simp [eqv, h, h']
theorem z_inI : sem2 .in_ n (.int i) (.lst (ks.map D.int)) = some (.bl (decide (i ∈ ks))) := by
  show (if shp deep (.int i) && shpAll deep (iD ks) then some (D.bl ((iD ks).any fun y => eqv y (.int i))) else none) = _
  rw [shp_int, shpAll_iD, any_iD]; rfl
theorem z_ninI : sem2 .nin n (.int i) (.lst (ks.map D.int)) = some (.bl (!decide (i ∈ ks))) := by
  show (if shp deep (.int i) && shpAll deep (iD ks) then some (D.bl (!(iD ks).any fun y => eqv y (.int i))) else none) = _
  rw [shp_int, shpAll_iD, any_iD]; rfl
end
/-! ### == of plain values -/
mutual
/-- plain: numbers, texts, None, lists and tuples of such -/
def pl : Nat → D → Bool
  | _, .non => true
  | _, .int _ => true
  | _, .str x => strGood x
  | k + 1, .lst xs => plAll k xs
  | k + 1, .tup xs => plAll k xs
  | _, _ => false
def plAll : Nat → List D → Bool
  | _, [] => true
  | k, x :: xs => pl k x && plAll k xs
end
mutual
theorem pl_shp : ∀ (k : Nat) (d : D), pl k d = true → shp k d = true
  | _, .non, _ => by simp [shp]
  | _, .int _, _ => by simp [shp]
  | k, .str x, h => by cases k <;> simpa [pl, shp] using h
  | 0, .lst _, h => by simp [pl] at h
  | 0, .tup _, h => by simp [pl] at h
  | k + 1, .lst xs, h => by simp only [shp]; exact plAll_shp k xs (by simpa [pl] using h)
  | k + 1, .tup xs, h => by simp only [shp]; exact plAll_shp k xs (by simpa [pl] using h)
  | k, .bl _, h => by cases k <;> simp [pl] at h
  | k, .dic _, h => by cases k <;> simp [pl] at h
  | k, .exc _, h => by cases k <;> simp [pl] at h
  | k, .scr _, h => by cases k <;> simp [pl] at h
  | k, .town, h => by cases k <;> simp [pl] at h
theorem plAll_shp : ∀ (k : Nat) (xs : List D), plAll k xs = true → shpAll k xs = true
  | k, [], _ => by cases k <;> simp [shpAll]
  | k, x :: xs, h => by
    have h : pl k x = true ∧ plAll k xs = true := by simpa [plAll] using h
    have := pl_shp k x h.1
    have := plAll_shp k xs h.2
    simp [shpAll, *]
end
open Classical in
mutual
theorem eqv_pl : ∀ (k : Nat) (d e : D), pl k d = true → pl k e = true → (eqv d e = true ↔ d = e)
  | k, d, e, h1, h2 => by
    cases d <;> cases e <;> try (first | (cases k <;> simp [pl] at h1; done) | (cases k <;> simp [pl] at h2; done) | (simp [eqv]; done))
    · rename_i xs ys
      cases k with
      | zero => simp [pl] at h1
      | succ k => simp only [eqv, D.lst.injEq]; exact eqvAll_pl k xs ys (by simpa [pl] using h1) (by simpa [pl] using h2)
    · rename_i xs ys
      cases k with
      | zero => simp [pl] at h1
      | succ k => simp only [eqv, D.tup.injEq]; exact eqvAll_pl k xs ys (by simpa [pl] using h1) (by simpa [pl] using h2)
theorem eqvAll_pl : ∀ (k : Nat) (d e : List D), plAll k d = true → plAll k e = true → (eqvAll d e = true ↔ d = e)
  | k, [], [], _, _ => by simp [eqvAll]
  | k, [], _ :: _, _, _ => by simp [eqvAll]
  | k, _ :: _, [], _, _ => by simp [eqvAll]
  | k, x :: xs, y :: ys, h1, h2 => by
    have h1 : pl k x = true ∧ plAll k xs = true := by simpa [plAll] using h1
    have h2 : pl k y = true ∧ plAll k ys = true := by simpa [plAll] using h2
    have a := eqv_pl k x y h1.1 h2.1
    have b := eqvAll_pl k xs ys h1.2 h2.2
    simp only [eqvAll, Bool.and_eq_true, a, b, List.cons.injEq]
end
theorem isEq_pl {d e : D} (h1 : pl 20 d = true) (h2 : pl 20 e = true) {x : Bool} (hx : x = true ↔ d = e) : isEq d e = some x := by
  unfold isEq
  rw [show deep = 20 from rfl, pl_shp _ _ h1, pl_shp _ _ h2]
  simp only [Bool.and_self, if_true, Option.some.injEq]
  have := eqv_pl _ _ _ h1 h2
  cases h : eqv d e <;> cases x <;> simp_all
theorem sem_eq {n : Nat} (d e : D) : sem2 .eq n d e = (isEq d e).map D.bl := by cases d <;> cases e <;> rfl
theorem sem_ne {n : Nat} (d e : D) : sem2 .ne n d e = (isEq d e).map fun b => D.bl (!b) := by cases d <;> cases e <;> rfl
theorem z_eq {n : Nat} {d e : D} {x : Bool} (h1 : pl 20 d = true) (h2 : pl 20 e = true) (hx : x = true ↔ d = e) : sem2 .eq n d e = some (.bl x) := by rw [sem_eq, isEq_pl h1 h2 hx]; rfl
theorem z_ne {n : Nat} {d e : D} {x : Bool} (h1 : pl 20 d = true) (h2 : pl 20 e = true) (hx : x = true ↔ d = e) : sem2 .ne n d e = some (.bl (!x)) := by rw [sem_ne, isEq_pl h1 h2 hx]; rfl
theorem z_eqS {n : Nat} {d e : D} (h1 : pl 20 d = true) (h : d = e) : sem2 .eq n d e = some (.bl true) := by subst h; rw [z_eq h1 h1 (x := true) (by simp)]
theorem z_neS {n : Nat} {d e : D} (h1 : pl 20 d = true) (h : d = e) : sem2 .ne n d e = some (.bl false) := by subst h; rw [z_ne h1 h1 (x := true) (by simp)]; rfl
theorem plAll_mem {k : Nat} {xs : List D} (h : ∀ x ∈ xs, pl k x = true) : plAll k xs = true := by
  induction xs with
  | nil => cases k <;> simp [plAll]
  | cons a r ih => simp [plAll, h a List.mem_cons_self, ih fun x hx => h x (List.mem_cons_of_mem _ hx)]
theorem pl_map {α : Type} {k : Nat} {l : List α} {w : α → D} (h : ∀ x ∈ l, pl k (w x) = true) : plAll k (l.map w) = true := plAll_mem fun x hx => by
  obtain ⟨a, ha, rfl⟩ := List.mem_map.mp hx
  exact h a ha
theorem pl_int {k : Nat} {i : Int} : pl k (.int i) = true := by cases k <;> rfl
theorem pl_non {k : Nat} : pl k .non = true := by cases k <;> rfl
theorem pl_iD {k : Nat} {l : List Int} : plAll k (l.map D.int) = true := pl_map fun _ _ => pl_int
theorem pl_lst {k : Nat} {xs : List D} (h : plAll k xs = true) : pl (k + 1) (.lst xs) = true := by simpa [pl] using h
theorem pl_tup {k : Nat} {xs : List D} (h : plAll k xs = true) : pl (k + 1) (.tup xs) = true := by simpa [pl] using h
theorem pl_cons {k : Nat} {x : D} {xs : List D} (h : pl k x = true) (h2 : plAll k xs = true) : plAll k (x :: xs) = true := by simp [plAll, h, h2]
theorem pl_nil {k : Nat} : plAll k [] = true := by cases k <;> rfl
section
variable {S : Sub} {T : Tab} {env : Ev} {n n1 n2 n3 : Nat} {a b c e t : ME} {d d1 d2 d3 r : D}
theorem z_eqLi {ks ls : List Int} : sem2 .eq n (.lst (ks.map D.int)) (.lst (ls.map D.int)) = some (.bl (decide (ks = ls))) :=
  z_eq (pl_lst pl_iD) (pl_lst pl_iD) (by rw [decide_eq_true_iff, D.lst.injEq]; exact ⟨fun h => by rw [h], fun h => List.map_inj_right (fun _ _ h => by injection h) |>.mp h⟩)
theorem z_eqTi {ks ls : List Int} : sem2 .eq n (.tup (ks.map D.int)) (.tup (ls.map D.int)) = some (.bl (decide (ks = ls))) :=
  z_eq (pl_tup pl_iD) (pl_tup pl_iD) (by rw [decide_eq_true_iff, D.tup.injEq]; exact ⟨fun h => by rw [h], fun h => List.map_inj_right (fun _ _ h => by injection h) |>.mp h⟩)
theorem z_neLi {ks ls : List Int} : sem2 .ne n (.lst (ks.map D.int)) (.lst (ls.map D.int)) = some (.bl (!decide (ks = ls))) :=
  z_ne (pl_lst pl_iD) (pl_lst pl_iD) (by rw [decide_eq_true_iff, D.lst.injEq]; exact ⟨fun h => by rw [h], fun h => List.map_inj_right (fun _ _ h => by injection h) |>.mp h⟩)
theorem z_neTi {ks ls : List Int} : sem2 .ne n (.tup (ks.map D.int)) (.tup (ls.map D.int)) = some (.bl (!decide (ks = ls))) :=
  z_ne (pl_tup pl_iD) (pl_tup pl_iD) (by rw [decide_eq_true_iff, D.tup.injEq]; exact ⟨fun h => by rw [h], fun h => List.map_inj_right (fun _ _ h => by injection h) |>.mp h⟩)
theorem iD_map {α : Type} {l : List α} {f : α → Int} : l.map (fun x => D.int (f x)) = (l.map f).map D.int := by rw [List.map_map]; rfl
theorem z_eqLw {α : Type} {l : List α} {f : α → Int} {ls : List Int} : sem2 .eq n (.lst (l.map fun x => .int (f x))) (.lst (ls.map D.int)) = some (.bl (decide (l.map f = ls))) := by
  rw [iD_map]; exact z_eqLi
theorem z_eqL1 {ks : List Int} {i : Int} : sem2 .eq n (.lst (ks.map D.int)) (.lst [.int i]) = some (.bl (decide (ks = [i]))) := z_eqLi (ls := [i])
theorem go_bl {x y : Bool} (h : evE S T a env n = .ok (.bl x) n1) (e : x = y) : evE S T a env n = .ok (.bl y) n1 := by rw [h, e]
theorem go_eq (h : evE S T a env n = .ok d n1) (e : d = d1) : evE S T a env n = .ok d1 n1 := by rw [h, e]
theorem go_orF (h1 : evE S T a env n = .ok (.bl false) n1) (h2 : evE S T b env n1 = .ok (.bl false) n2) : evE S T (.or a b) env n = .ok (.bl false) n2 := by simp only [evE, h1, Out.bind, h2]
theorem go_orT (h1 : evE S T a env n = .ok (.bl true) n1) : evE S T (.or a b) env n = .ok (.bl true) n1 := by simp only [evE, h1, Out.bind]
theorem gs_popu {is : List Nat} {i : Nat} {xs : List D} {env' : Ev} (h0 : getL env i = some xs) (h1 : xs.getLast? = some d) (h2 : bindT is d (env.set i (some (.lst xs.dropLast))) = some env') : evS S T (.popu is i) env n = .nx env' n := by simp only [evS, h0, ofO, h1, putL, h2]
theorem gs_ins {i : Nat} {k e : ME} {xs : List D} {j : Int} {env' : Ev} (h0 : getL env i = some xs) (h1 : evE S T k env n = .ok (.int j) n1) (h2 : evE S T e env n1 = .ok d n2) (hj : 0 ≤ j ∧ j ≤ xs.length) (hl : xs.length < 16777216) (h3 : env.set i (some (.lst (xs.take j.toNat ++ d :: xs.drop j.toNat))) = env') : evS S T (.ins i k e) env n = .nx env' n2 := by
  have hl : xs.length < line := hl
  subst h3; simp only [evS, h0, ofO, h1, h2, SO.of, putL]; rw [if_pos ⟨hj.1, hj.2, hl⟩]
theorem gs_sto {i : Nat} {k e : ME} {xs : List D} {j : Int} {env' : Ev} (h1 : evE S T e env n = .ok d n1) (h0 : getL env i = some xs) (h2 : evE S T k env n1 = .ok (.int j) n2) (hj : 0 ≤ j ∧ j < xs.length) (h3 : env.set i (some (.lst (xs.set j.toNat d))) = env') : evS S T (.sto i k e) env n = .nx env' n2 := by
  subst h3; simp only [evS, h1, SO.of, h0, ofO, h2, ixN_pos hj.1 hj.2, putL]
theorem gs_par {i j : Nat} {env' : Ev} (h1 : evE S T a env n = .ok d n1) (h2 : evE S T b env n1 = .ok d1 n2) (h3 : (env.set i (some d)).set j (some d1) = env') : evS S T (.par i j a b) env n = .nx env' n2 := by subst h3; simp only [evS, h1, h2, SO.of]
theorem go_jn {x : Str} (h1 : evE S T a env n = .ok (.str x) n1) (h2 : evE S T b env n1 = .ok d n2) (h3 : semJ x d = some r) : evE S T (.jn a b) env n = .ok r n2 := by simp only [evE, h1, h2, h3, Out.bind, Out.lift]
theorem strsOf_map {α : Type} (l : List α) (f : α → Str) : strsOf (l.map fun x => .str (f x)) = some (l.map f) := by
  induction l with
  | nil => rfl
  | cons a r ih => rw [List.map_cons, strsOf, ih]; rfl
theorem z_jn {α : Type} {x : Str} {l : List α} {f : α → Str} (h : ((l.map f).map (·.length)).sum + (l.map f).length * x.length ≤ 16777216) : semJ x (.lst (l.map fun x => .str (f x))) = some (.str (Str.join x (l.map f))) := by
  show (strsOf _).bind _ = _
  have h : ((l.map f).map (·.length)).sum + (l.map f).length * x.length ≤ line := h
  rw [strsOf_map, Option.bind_some, if_pos h]
theorem gb_giv {js : List Nat} {B : MB} (h : evB S T B env n = .rt d n1) : evB S T (.giv js B) env n = .rt d n1 := by simp only [evB, h]
theorem gs_swp {i : Nat} {k l : ME} {xs : List D} {kk ll : Int} {env' : Ev} (h1 : evE S T a env n = .ok d n1) (h2 : evE S T b env n1 = .ok d1 n2) (h0 : getL env i = some xs) (hk : evE S T k env n2 = .ok (.int kk) n2) (hkk : 0 ≤ kk ∧ kk < xs.length) (hl : evE S T l (env.set i (some (.lst (xs.set kk.toNat d)))) n2 = .ok (.int ll) n3) (hll : 0 ≤ ll ∧ ll < xs.length) (h3 : (env.set i (some (.lst ((xs.set kk.toNat d).set ll.toNat d1)))) = env') : evS S T (.swp i k l a b) env n = .nx env' n3 := by
  subst h3; simp only [evS, h1, h2, SO.of, h0, ofO, hk, ixN_pos hkk.1 hkk.2, putL, hl, ixN_pos hll.1 hll.2]
theorem gs_st2 {i : Nat} {k l e : ME} {xs ys : List D} {kk ll : Int} {env' : Ev} (h1 : evE S T e env n = .ok d n1) (h0 : getL env i = some xs) (hk : evE S T k env n1 = .ok (.int kk) n2) (hkk : 0 ≤ kk ∧ kk < xs.length) (hl : evE S T l env n2 = .ok (.int ll) n3) (hr : xs[kk.toNat]? = some (.lst ys)) (hll : 0 ≤ ll ∧ ll < ys.length) (h3 : env.set i (some (.lst (xs.set kk.toNat (.lst (ys.set ll.toNat d))))) = env') : evS S T (.st2 i k l e) env n = .nx env' n3 := by
  have hM : getM env i kk.toNat = some ys := by unfold getM; rw [h0, Option.bind_some, hr]
  subst h3; simp only [evS, h1, SO.of, h0, ofO, hk, ixN_pos hkk.1 hkk.2, hl, hM, ixN_pos hll.1 hll.2, putL]
theorem z_min {i j : Int} : sem2 .min2 n (.int i) (.int j) = some (.int (if j < i then j else i)) := rfl
theorem z_max {i j : Int} : sem2 .max2 n (.int i) (.int j) = some (.int (if j > i then j else i)) := rfl
theorem go_andF (h1 : evE S T a env n = .ok (.bl false) n1) : evE S T (.and a b) env n = .ok (.bl false) n1 := by simp only [evE, h1, Out.bind]
theorem go_andT (h1 : evE S T a env n = .ok (.bl true) n1) (h2 : evE S T b env n1 = .ok d n2) : evE S T (.and a b) env n = .ok d n2 := by simp only [evE, h1, Out.bind, h2]
theorem go_neF (h1 : evE S T a env n = .ok d n1) (h2 : evE S T b env n1 = .ok d1 n2) (hp : pl 20 d = true) (h : d = d1) : evE S T (.p2 .ne a b) env n = .ok (.bl false) n2 := go_p2 h1 h2 (z_neS hp h)
theorem go_eqT (h1 : evE S T a env n = .ok d n1) (h2 : evE S T b env n1 = .ok d1 n2) (hp : pl 20 d = true) (h : d = d1) : evE S T (.p2 .eq a b) env n = .ok (.bl true) n2 := go_p2 h1 h2 (z_eqS hp h)
/-- if X != Y: return False -/
theorem gs_chk {B : MB} (h : evE S T t env n = .ok (.bl false) n1) : evS S T (.if_ t B .nil) env n = .nx env n1 := gs_ifF h gb_nil
/-- what goes up -/
theorem go_p1X {p : P1} {x : Str} (h : evE S T a env n = .ex x n1) : evE S T (.p1 p a) env n = .ex x n1 := by simp only [evE, h, Out.bind]
theorem go_p2X {p : P2} {x : Str} (h : evE S T a env n = .ex x n1) : evE S T (.p2 p a b) env n = .ex x n1 := by simp only [evE, h, Out.bind]
theorem go_p2Y {p : P2} {x : Str} (h0 : evE S T a env n = .ok d n1) (h : evE S T b env n1 = .ex x n2) : evE S T (.p2 p a b) env n = .ex x n2 := by simp only [evE, h0, h, Out.bind]
theorem go_andX {x : Str} (h : evE S T a env n = .ex x n1) : evE S T (.and a b) env n = .ex x n1 := by simp only [evE, h, Out.bind]
theorem go_orX {x : Str} (h : evE S T a env n = .ex x n1) : evE S T (.or a b) env n = .ex x n1 := by simp only [evE, h, Out.bind]
theorem go_iteTX {x : Str} (h1 : evE S T t env n = .ok (.bl true) n1) (h2 : evE S T a env n1 = .ex x n2) : evE S T (.ite t a b) env n = .ex x n2 := by simp only [evE, h1, Out.bind, h2]
theorem go_iteFX {x : Str} (h1 : evE S T t env n = .ok (.bl false) n1) (h2 : evE S T b env n1 = .ex x n2) : evE S T (.ite t a b) env n = .ex x n2 := by simp only [evE, h1, Out.bind, h2]
theorem go_consX {as : MEs} {x : Str} (h1 : evE S T a env n = .ex x n1) : evA S T (.cons a as) env n = .ex x n1 := by simp only [evA, h1, Out.bind]
theorem go_callA {f : Str} {as : MEs} {k : Nat} {run : List D → Nat → Out D} {x : Str} (hT : T f = some (k, run)) (h : evA S T as env n = .ex x n1) : evE S T (.call f as) env n = .ex x n1 := by simp only [evE, hT, h, Out.bind]
theorem gs_ifX {x : Str} {B1 B2 : MB} (h : evE S T t env n = .ex x n1) : evS S T (.if_ t B1 B2) env n = .ex x n1 env := by simp only [evS, h, SO.of]
theorem gi_rgX {x : Str} (h : evE S T a env n = .ex x n1) : evI S T (.rg a) env n = .ex x n1 := by simp only [evI, h, Out.bind]
theorem gi_sqX {x : Str} (h : evE S T a env n = .ex x n1) : evI S T (.sq a) env n = .ex x n1 := by simp only [evI, h, Out.bind]
theorem go_lcX {x : Str} {tg : List Nat} {a0 : MI} (h : evI S T a0 env n = .ex x n1) : evE S T (.lc tg a0 t e) env n = .ex x n1 := by simp only [evE, h, Out.bind]
theorem gs_forX {x : Str} {tg : List Nat} {a0 : MI} {B : MB} (h : evI S T a0 env n = .ex x n1) : evS S T (.for_ tg a0 B) env n = .ex x n1 env := by simp only [evS, h, SO.of]
/-- draws in a comprehension -/
theorem gather_st {α β : Type} {w : α → D} {g : β → D} {P : β → Prop} {f : D → Nat → Out (Option D)} {c B : Nat} : ∀ (xs : List α) (n : Nat), (∀ x ∈ xs, ∀ n, n + c ≤ B → ∃ v, P v ∧ f (w x) n = .ok (some (g v)) (n + c)) → n + c * xs.length ≤ B → ∃ vs : List β, vs.length = xs.length ∧ (∀ v ∈ vs, P v) ∧ gather f (xs.map w) n = .ok (vs.map g) (n + c * xs.length)
  | [], n, _, _ => ⟨[], rfl, by simp, by simp [gather]⟩
  | x :: r, n, h, hB => by
    have e : c * (x :: r).length = c + c * r.length := by rw [List.length_cons, Nat.mul_succ]; omega
    rw [e] at hB ⊢
    obtain ⟨v, pv, hv⟩ := h x List.mem_cons_self n (by omega)
    obtain ⟨vs, h1, h2, h3⟩ := gather_st r (n + c) (fun y hy => h y (List.mem_cons_of_mem _ hy)) (by omega)
    refine ⟨v :: vs, by simp [h1], ?_, ?_⟩
    · intro u hu
      rcases List.mem_cons.mp hu with rfl | hu
      · exact pv
      · exact h2 u hu
    · simp only [List.map_cons, gather, hv, h3]
      rw [Nat.add_assoc]
theorem go_lcS {α β : Type} {i : Nat} {a0 : MI} {xs : List α} {w : α → D} {g : β → D} (P : β → Prop) (c B : Nat) (ha : evI S T a0 env n = .ok (xs.map w) n1) (h : ∀ x ∈ xs, ∀ n, n + c ≤ B → ∃ v, P v ∧ evE S T e (env.set i (some (w x))) n = .ok (g v) (n + c)) (hB : n1 + c * xs.length ≤ B) :
    ∃ vs : List β, vs.length = xs.length ∧ (∀ v ∈ vs, P v) ∧ evE S T (.lc [i] a0 (.c (.bl true)) e) env n = .ok (.lst (vs.map g)) (n1 + c * xs.length) := by
  obtain ⟨vs, h1, h2, h3⟩ := gather_st (w := w) (g := g) (P := P) (c := c) (B := B) (f := turnL (fun x => bindT [i] x (wipeD env [i])) (evE S T (.c (.bl true))) (evE S T e)) xs n1 (fun x hx n hn => by
    obtain ⟨v, pv, hv⟩ := h x hx n hn
    exact ⟨v, pv, by simp only [turnL, bindT, wipeD, set_none_set, evE, hv]⟩) hB
  refine ⟨vs, h1, h2, ?_⟩
  rw [evE.eq_15, ha, Out.bind_ok, h3, Out.bind_ok]
/-- a while loop, by what holds and what grows less -/
theorem gl_whl {σ : Type} {t : Ev → Nat → Out D} {b : Ev → Nat → SO} (E : σ → Ev) (I : σ → Prop) (μ : σ → Nat) (step : ∀ s, I s → ∃ c, t (E s) n = .ok (.bl c) n ∧ (c = true → ∃ s', b (E s) n = .nx (E s') n ∧ I s' ∧ μ s' < μ s)) : ∀ (f : Nat) (s : σ), I s → μ s < f → ∃ s', whlL t b f (E s) n = .nx (E s') n ∧ I s' ∧ t (E s') n = .ok (.bl false) n
  | 0, s, _, h => by omega
  | f + 1, s, hI, h => by
    obtain ⟨c, h1, h2⟩ := step s hI
    cases c with
    | false => exact ⟨s, by simp only [whlL, h1, SO.of], hI, h1⟩
    | true =>
      obtain ⟨s', h3, h4, h5⟩ := h2 rfl
      obtain ⟨s2, h6, h7, h8⟩ := gl_whl E I μ step f s' h4 (by omega)
      exact ⟨s2, by simp only [whlL, h1, SO.of, h3, SO.then, h6], h7, h8⟩
theorem z_neB {x y : Bool} : sem2 .ne n (.bl x) (.bl y) = some (.bl (x != y)) := by
  cases x <;> cases y <;> rfl
theorem z_eqB {x y : Bool} : sem2 .eq n (.bl x) (.bl y) = some (.bl (x == y)) := by
  cases x <;> cases y <;> rfl
theorem z_index {ns : List Int} {k : Int} (h : k ∈ ns) : sem2 .index n (.lst (ns.map D.int)) (.int k) = some (.int (ns.idxOf k : Nat)) := by
  have e : sem2 .index n (.lst (ns.map D.int)) (.int k) = if shp deep (.int k) && shpAll deep (iD ns) then ((iD ns).findIdx? fun y => eqv y (.int k)).map (fun j => D.int (j : Nat)) else none := rfl
  have q : ∀ {ns : List Int}, k ∈ ns → (iD ns).findIdx? (fun y => eqv y (.int k)) = some (ns.idxOf k) := by
    intro ns
    induction ns with
    | nil => intro h; cases h
    | cons a r ih =>
      intro h
      show (D.int a :: iD r).findIdx? _ = _
      rw [List.findIdx?_cons, List.idxOf_cons]
      by_cases e : a = k
      · subst e; simp [eqv]
      · have e1 : eqv (.int a) (.int k) = false := by simp [eqv, e]
        have e2 : (a == k) = false := by simp [e]
        rw [e1, e2]
        have hm : k ∈ r := (List.mem_cons.mp h).resolve_left fun q => e q.symm
        simp [ih hm]
  rw [e, shp_int, shpAll_iD, q h]; rfl
/-- sets of numbers -/
theorem mem_ins1 {le : Int → Int → Bool} {a x : Int} : ∀ {l : List Int}, x ∈ ins1 le a l ↔ x = a ∨ x ∈ l
  | [] => by simp [ins1]
  | b :: r => by
    unfold ins1
    split
    · simp
    · simp only [List.mem_cons, mem_ins1]
      constructor
      · rintro (h | h | h) <;> simp [h]
      · rintro (h | h | h) <;> simp [h]
theorem mem_sortI {x : Int} : ∀ {l : List Int}, x ∈ sortI l ↔ x ∈ l
  | [] => by simp [sortI, isort]
  | a :: r => by
    have := mem_sortI (x := x) (l := r)
    unfold sortI at *
    simp only [isort, mem_ins1, this, List.mem_cons]
theorem mem_once {x : Int} : ∀ {l : List Int}, x ∈ once l ↔ x ∈ l
  | [] => by simp [once]
  | a :: r => by
    simp only [once, List.mem_cons, List.mem_filter, mem_once (l := r), decide_eq_true_eq]
    by_cases h : x = a <;> simp [h]
theorem once_one {ks : List Int} {x : Int} (h0 : ks ≠ []) (h : ∀ k ∈ ks, k = x) : once ks = [x] := by
  cases ks with
  | nil => exact absurd rfl h0
  | cons a r =>
    have ha := h a List.mem_cons_self
    subst ha
    have : (once r).filter (fun b => decide (b ≠ a)) = [] := by
      rw [List.filter_eq_nil_iff]
      intro b hb
      have := h b (List.mem_cons_of_mem _ (mem_once.mp hb))
      simp [this]
    rw [once, this]
theorem sset_one {ks : List Int} {x : Int} (h0 : ks ≠ []) : sortI (once ks) = [x] ↔ ∀ k ∈ ks, k = x := by
  constructor
  · intro h k hk
    have : k ∈ sortI (once ks) := mem_sortI.mpr (mem_once.mpr hk)
    rw [h] at this
    simpa using this
  · intro h
    rw [once_one h0 h]; rfl
/-- strictly rising lists -/
theorem rise_eq : ∀ {l m : List Int}, l.Pairwise (· < ·) → m.Pairwise (· < ·) → (∀ x, x ∈ l ↔ x ∈ m) → l = m
  | [], [], _, _, _ => rfl
  | [], b :: s, _, _, h => by have := (h b).mpr (by simp); cases this
  | a :: r, [], _, _, h => by have := (h a).mp (by simp); cases this
  | a :: r, b :: s, h1, h2, h => by
    rw [List.pairwise_cons] at h1 h2
    have e : a = b := by
      have x1 := (h a).mp (by simp)
      have x2 := (h b).mpr (by simp)
      rcases List.mem_cons.mp x1 with q | q
      · exact q
      · rcases List.mem_cons.mp x2 with q2 | q2
        · exact q2.symm
        · have := h2.1 a q; have := h1.1 b q2; omega
    subst e
    rw [rise_eq h1.2 h2.2 fun x => ?_]
    constructor
    · intro q
      rcases List.mem_cons.mp ((h x).mp (by simp [q])) with e | e
      · subst e; have := h1.1 x q; omega
      · exact e
    · intro q
      rcases List.mem_cons.mp ((h x).mpr (by simp [q])) with e | e
      · subst e; have := h2.1 x q; omega
      · exact e
theorem rI_rise (m : Nat) : (rI m).Pairwise (· < ·) := by
  unfold rI
  rw [List.pairwise_map]
  exact List.pairwise_lt_range.imp fun h => by omega
theorem ins1_rise {a : Int} : ∀ {l : List Int}, l.Pairwise (· < ·) → a ∉ l → (ins1 (fun a b => decide (a ≤ b)) a l).Pairwise (· < ·)
  | [], _, _ => by simp [ins1]
  | b :: r, h, hn => by
    rw [List.pairwise_cons] at h
    have hab : a ≠ b := fun e => hn (by simp [e])
    unfold ins1
    split
    · rename_i q
      have q := of_decide_eq_true q
      rw [List.pairwise_cons]
      refine ⟨fun c hc => ?_, List.pairwise_cons.mpr h⟩
      rcases List.mem_cons.mp hc with e | e
      · omega
      · have := h.1 c e; omega
    · rename_i q
      have q : ¬ a ≤ b := fun z => q (decide_eq_true z)
      rw [List.pairwise_cons]
      refine ⟨fun c hc => ?_, ins1_rise h.2 fun z => hn (by simp [z])⟩
      rcases mem_ins1.mp hc with e | e
      · omega
      · exact h.1 c e
theorem sortI_rise : ∀ {l : List Int}, l.Nodup → (sortI l).Pairwise (· < ·)
  | [], _ => by simp [sortI, isort]
  | a :: r, h => by
    rw [List.nodup_cons] at h
    have := sortI_rise h.2
    unfold sortI at *
    exact ins1_rise this fun z => h.1 (mem_sortI.mp z)
theorem once_nodup : ∀ l : List Int, (once l).Nodup
  | [] => by simp [once]
  | a :: r => by
    rw [once, List.nodup_cons]
    refine ⟨fun h => ?_, (once_nodup r).filter _⟩
    have := (List.mem_filter.mp h).2
    simp at this
theorem ss_rise (l : List Int) : (ss l).Pairwise (· < ·) := sortI_rise (once_nodup l)
theorem ss_mem {l : List Int} {x : Int} : x ∈ ss l ↔ x ∈ l := mem_sortI.trans mem_once
theorem ss_of {l m : List Int} (h : m.Pairwise (· < ·)) (h2 : ∀ x, x ∈ l ↔ x ∈ m) : ss l = m := rise_eq (ss_rise l) h fun x => ss_mem.trans (h2 x)
theorem ss_self {l : List Int} (h : l.Pairwise (· < ·)) : ss l = l := ss_of h fun _ => Iff.rfl
theorem rise_nodup {l : List Int} (h : l.Pairwise (· < ·)) : l.Nodup := h.imp fun h => by omega
theorem rise_len {m : Nat} {l : List Int} (h : l.Pairwise (· < ·)) (h2 : ∀ k ∈ l, 0 ≤ k ∧ k < (m : Int)) : l.length ≤ m := by
  have key : ∀ (m : Nat) (l : List Int), l.Nodup → (∀ k ∈ l, 0 ≤ k ∧ k < (m : Int)) → l.length ≤ m := by
    intro m
    induction m with
    | zero =>
      intro l _ h
      cases l with
      | nil => exact Nat.le_refl _
      | cons a r => have := h a List.mem_cons_self; omega
    | succ m ih =>
      intro l nd h
      have h1 := ih (l.erase (m : Int)) (nd.erase _) fun k hk => by
        have h2 := h k (List.mem_of_mem_erase hk)
        have h3 : k ≠ (m : Int) := fun e => by subst e; exact nd.not_mem_erase hk
        omega
      have h4 := List.length_erase (a := (m : Int)) (l := l)
      split at h4 <;> omega
  exact key m l (rise_nodup h) h2
theorem rise_full {m : Nat} {l : List Int} (h : l.Pairwise (· < ·)) (h2 : ∀ k ∈ l, 0 ≤ k ∧ k < (m : Int)) : l = rI m ↔ l.length = m := by
  constructor
  · intro e; rw [e, rI_length]
  · intro e
    refine rise_eq h (rI_rise m) fun x => ⟨fun q => rI_mem.mpr (h2 x q), fun q => ?_⟩
    refine Classical.byContradiction fun z => ?_
    have hq := rI_mem.mp q
    have : (ss (x :: l)).length ≤ m := rise_len (ss_rise _) fun k hk => by
      rcases List.mem_cons.mp (ss_mem.mp hk) with e | e
      · subst e; exact hq
      · exact h2 k e
    have e2 : (ss (x :: l)).length = l.length + 1 := by
      have e1 : once (x :: l) = x :: once l := by
        rw [once, List.filter_eq_self.mpr]
        intro b hb
        have : b ≠ x := fun e => z (e ▸ mem_once.mp hb)
        simp [this]
      have lenI : ∀ l : List Int, (sortI l).length = l.length := by
        have : ∀ (a : Int) (l : List Int), (ins1 (fun a b => decide (a ≤ b)) a l).length = l.length + 1 := fun a l => by
          induction l with
          | nil => rfl
          | cons b r ih => unfold ins1; split <;> simp [ih]
        intro l
        induction l with
        | nil => rfl
        | cons a r ih => unfold sortI at *; rw [isort, this, ih]; rfl
      have len2 : (once l).length = l.length := by
        have e := ss_self h
        have := congrArg List.length e
        rw [lenI] at this
        exact this
      rw [lenI, e1, List.length_cons, len2]
    omega
theorem rng_of {m : Nat} {l : List Int} {x : Int} (h : ∀ k ∈ l, 0 ≤ k ∧ k < (m : Int)) (hx : x ∈ l) : 0 ≤ x ∧ x < (m : Int) := h x hx
end
/-! ### readings whose lists are all new -/
section
variable {S : Sub} {T : Tab} {env env' : Ev} {n n1 n2 : Nat} {d r : D} {e : MD} {b : MB} {s : MS}
theorem nolAll_iD : ∀ l : List Int, nolAll (l.map D.int) = true
  | [] => rfl
  | _ :: r => by simp only [List.map_cons, nolAll, nol, Bool.true_and]; exact nolAll_iD r
theorem nolAll_map {α : Type} {w : α → D} : ∀ {l : List α}, (∀ x ∈ l, nol (w x) = true) → nolAll (l.map w) = true
  | [], _ => rfl
  | a :: r, h => by
    simp only [List.map_cons, nolAll, Bool.and_eq_true]
    exact ⟨h a List.mem_cons_self, nolAll_map fun x hx => h x (List.mem_cons_of_mem _ hx)⟩
theorem gs_retO {i : Nat} {xs : List D} (h : getL env i = some xs) (hn : nolAll xs = true) : evS S T (.retO i) env n = .rt (.lst xs) n := by simp only [evS, h, ofO, hn, if_true]
theorem gs_retD (h : evD S T e env n = .ok d n1) : evS S T (.retD e) env n = .rt d n1 := by simp only [evS, h, SO.of]
theorem gs_retDX {x : Str} (h : evD S T e env n = .ex x n1) : evS S T (.retD e) env n = .ex x n1 env := by simp only [evS, h, SO.of]
theorem gd_callD {f : Str} {as : MEs} {k : Nat} {run : List D → Nat → Out D} {ds : List D} (hT : T f = some (k, run)) (h : evA S T as env n = .ok ds n1) (hk : ds.length = k) : evD S T (.callD f as) env n = run ds n1 := by
  simp only [evD, evE, hT, h, Out.bind_ok, hk, if_true]
theorem gd_callN {f : Str} {as : MEs} {k : Nat} {run : List D → Nat → Out D} {ds : List D} (hT : T f = some (k, run)) (h : evA S T as env n = .ok ds n1) (hk : ds.length = k) (hn : nolAll ds = true) : evD S T (.callN f as) env n = run ds n1 := by
  simp only [evD, hT, h, Out.bind_ok, hk, hn, and_self, if_true]
def chkO (o : Out D) : Out D := o.bind fun d n => if nol d then .ok d n else .bad
theorem gd_chk {e : ME} : evD S T (.chk e) env n = chkO (evE S T e env n) := by simp only [evD, chkO]
theorem gd_chkC {f : Str} {as : MEs} {k : Nat} {run : List D → Nat → Out D} {ds : List D} (hT : T f = some (k, run)) (h : evA S T as env n = .ok ds n1) (hk : ds.length = k) : evD S T (.chk (.call f as)) env n = chkO (run ds n1) := by
  simp only [evD, evE, hT, h, Out.bind_ok, hk, if_true, chkO]
theorem gd_nls {e : ME} {xs : List D} (h : evE S T e env n = .ok (.lst xs) n1) (hn : nolAll xs = true) : evD S T (.nls e) env n = .ok (.lst xs) n1 := by simp only [evD, h, Out.bind_ok, hn, if_true]
def toSO (env : Ev) (o : Out D) : SO := SO.of env o fun d n => .rt d n
theorem gs_retT : evS S T (.retD e) env n = toSO env (evD S T e env n) := by simp only [evS, toSO]
theorem gb_to {o : Out D} (h : evS S T s env n = toSO env' o) : evB S T (.cons s b) env n = toSO env' o := by
  simp only [evB, h]
  cases o <;> rfl
theorem gf_to {sz : Nat} {ds : List D} {o : Out D} (h : evB S T b (ds.map some ++ List.replicate (sz - ds.length) none) n = toSO env' o) : evF S T sz b ds n = o := by
  unfold evF
  rw [h]
  cases o <;> rfl
end
end Mv

namespace Ko
open PySem (Str)
open Mv
section
variable (S : Sub) (n : Nat) (i j : Int) (xs ys : List D) (x y : Str) (d e : D) (b : Bool)
theorem s2_add : sem2 .add n (.int i) (.int j) = some (.int (i + j)) := rfl
theorem s2_addS : sem2 .add n (.str x) (.str y) = if x.length + y.length ≤ line then some (.str (x ++ y)) else none := rfl
theorem s2_addL : sem2 .add n (.lst xs) (.lst ys) = if xs.length + ys.length ≤ line then some (.lst (xs ++ ys)) else none := rfl
theorem s2_addT : sem2 .add n (.tup xs) (.tup ys) = if xs.length + ys.length ≤ line then some (.tup (xs ++ ys)) else none := rfl
theorem s2_sub : sem2 .sub n (.int i) (.int j) = some (.int (i - j)) := rfl
theorem s2_mul : sem2 .mul n (.int i) (.int j) = if (-(2 ^ 64) < i ∧ i < 2 ^ 64) ∨ (-(2 ^ 64) < j ∧ j < 2 ^ 64) then some (.int (i * j)) else none := rfl
theorem s2_mod : sem2 .mod n (.int i) (.int j) = if 0 < j then some (.int (i % j)) else none := rfl
theorem s2_fdiv : sem2 .fdiv n (.int i) (.int j) = if 0 < j ∧ j < 1073741824 then some (.int (i / j)) else none := rfl
theorem s2_pow : sem2 .pow n (.int i) (.int j) = if 0 ≤ j ∧ j ≤ 1000000 ∧ i.natAbs < 2 ^ 64 then some (.int (i ^ j.toNat)) else none := rfl
theorem s2_eq : sem2 .eq n d e = (isEq d e).map D.bl := by cases d <;> cases e <;> rfl
theorem s2_ne : sem2 .ne n d e = (isEq d e).map fun b => D.bl (!b) := by cases d <;> cases e <;> rfl
theorem s2_lt : sem2 .lt n (.int i) (.int j) = some (.bl (decide (i < j))) := rfl
theorem s2_le : sem2 .le n (.int i) (.int j) = some (.bl (decide (i ≤ j))) := rfl
theorem s2_gt : sem2 .gt n (.int i) (.int j) = some (.bl (decide (j < i))) := rfl
theorem s2_ge : sem2 .ge n (.int i) (.int j) = some (.bl (decide (j ≤ i))) := rfl
theorem s2_inL : sem2 .in_ n d (.lst ys) = if shp deep d && shpAll deep ys then some (.bl (ys.any fun y => eqv y d)) else none := by cases d <;> rfl
theorem s2_ninL : sem2 .nin n d (.lst ys) = if shp deep d && shpAll deep ys then some (.bl (!ys.any fun y => eqv y d)) else none := by cases d <;> rfl
theorem s2_ixL : sem2 .idx n (.lst xs) (.int i) = (ixN xs.length i).bind fun j => xs[j]? := rfl
theorem s2_ixT : sem2 .idx n (.tup xs) (.int i) = (ixN xs.length i).bind fun j => xs[j]? := rfl
theorem s2_min : sem2 .min2 n (.int i) (.int j) = some (.int (if j < i then j else i)) := rfl
theorem s2_max : sem2 .max2 n (.int i) (.int j) = some (.int (if j > i then j else i)) := rfl
theorem s1_lenL : sem1 S .len n (.lst xs) = some (.int xs.length) := rfl
theorem s1_lenT : sem1 S .len n (.tup xs) = some (.int xs.length) := rfl
theorem s1_lenW : sem1 S .len n .town = some (.int n) := rfl
theorem s1_all : sem1 S .all_ n (.lst xs) = (bools xs).map fun bs => .bl (bs.all id) := rfl
theorem s1_tru : sem1 S .tru n d = (truth d).map D.bl := by cases d <;> rfl
theorem s1_not : sem1 S .not_ n (.bl b) = some (.bl (!b)) := rfl
end
theorem evF_eq (S : Sub) (T : Tab) (size : Nat) (b : MB) (ds : List D) (n : Nat) : evF S T size b ds n = match evB S T b (ds.map some ++ List.replicate (size - ds.length) none) n with
  | .nx _ n => .ok .non n
  | .rt d n => .ok d n
  | .ex c n _ => .ex c n
  | .bad => .bad := rfl
theorem evB_nx {S : Sub} {T : Tab} {s : MS} {b : MB} {env env' : Ev} {n n' : Nat} (h : evS S T s env n = .nx env' n') : evB S T (.cons s b) env n = evB S T b env' n' := by
  simp only [evB, h, SO.then]
/-- the cell of the script -/
def cell (ns : List Int) (k : Int) : Int := ns.getD (k % (ns.length : Int)).toNat 0
def mix (ns : List Int) (k : Int) : Int :=
  let a := (cell ns k + 104729 * (k + 1)) % 4294967291
  let b := a ^ 5 % 4294967279
  (b / 64 * 69621 + b) % 4294967231
def draw (ns : List Int) (n : Nat) (many : Int) : Int := mix ns (n + 1 : Nat) / 8 % many
theorem run_cell (S : Sub) (ns : List Int) (k : Int) (n : Nat) (hk : 0 ≤ k) : r_law_cell S [.scr ns, .int k] n = .ok (.int (cell ns k)) n := by
  cases ns with
  | nil => simp [r_law_cell, evF_eq, b_law_cell, evB, evS, evE, sem1, truth, SO.of, SO.then, Out.bind, Out.lift, cell]
  | cons a r =>
    have h1 : (0 : Int) < ((a :: r).length : Int) := by simp only [List.length_cons]; omega
    have h2 : 0 ≤ k % ((a :: r).length : Int) := Int.emod_nonneg _ (by omega)
    have h3 : k % ((a :: r).length : Int) < ((a :: r).length : Int) := Int.emod_lt_of_pos _ h1
    have h4 : ixN (a :: r).length (k % ((a :: r).length : Int)) = some (k % ((a :: r).length : Int)).toNat := by
      unfold ixN; rw [if_pos h2, if_pos h3]
    have h5 : (k % ((a :: r).length : Int)).toNat < (a :: r).length := by omega
    have h6 : (a :: r)[(k % ((a :: r).length : Int)).toNat]? = some (cell (a :: r) k) := by
      unfold cell
      rw [List.getD_eq_getElem?_getD, List.getElem?_eq_getElem h5]
      rfl
    generalize hxs : a :: r = xs at *
    have ht : truth (.scr xs) = some true := by subst hxs; rfl
    simp only [r_law_cell, evF_eq, b_law_cell, evB, evS, evE, sem1, ht, SO.of, SO.then, Out.bind, Out.lift, sem2, h1, h4, h6, List.map_cons, List.map_nil, List.cons_append, List.getElem?_cons_zero, List.getElem?_cons_succ, Option.map_some, if_true, if_pos, Option.bind_some]
theorem mix_range (ns : List Int) (k : Int) : 0 ≤ mix ns k ∧ mix ns k < 4294967231 := by
  unfold mix
  exact ⟨Int.emod_nonneg _ (by decide), Int.emod_lt_of_pos _ (by decide)⟩
theorem run_mix (S : Sub) (ns : List Int) (k : Int) (n : Nat) (hk : 0 ≤ k) : r_law_mix S [.scr ns, .int k] n = .ok (.int (mix ns k)) n := by
  have hT : tabOf (c_law_mix S) "_law_cell" = some (2, r_law_cell S) := rfl
  have hm : (-(2 ^ 64) < (104729 : Int) ∧ (104729 : Int) < 2 ^ 64) ∨ (-(2 ^ 64) < k + 1 ∧ k + 1 < 2 ^ 64) := .inl (by decide)
  have a1 : 0 ≤ (cell ns k + 104729 * (k + 1)) % 4294967291 := Int.emod_nonneg _ (by decide)
  have a2 : (cell ns k + 104729 * (k + 1)) % 4294967291 < 4294967291 := Int.emod_lt_of_pos _ (by decide)
  simp only [r_law_mix, b_law_mix, evF_eq, evB, evS, evE, evA, evI, SO.of, SO.then, ofO, Out.bind, Out.lift, s2_add, s2_addS, s2_addL, s2_addT, s2_sub, s2_mul, s2_mod, s2_fdiv, s2_pow, s2_eq, s2_ne, s2_lt, s2_le, s2_gt, s2_ge, s2_inL, s2_ninL, s2_ixL, s2_ixT, s2_min, s2_max, s1_lenL, s1_lenT, s1_lenW, s1_all, s1_tru, s1_not, List.map_cons, List.map_nil, List.cons_append, List.nil_append, List.append_nil, List.getElem?_cons_zero, List.getElem?_cons_succ, List.length_cons, List.length_nil, Nat.reduceAdd, Nat.reduceSub, List.replicate, List.set_cons_zero, List.set_cons_succ, Option.map_some, Option.bind_some, if_true, if_false, Int.reduceLT, Int.reduceLE, and_self, true_and, and_true, reduceIte, hT, run_cell S ns k _ hk, if_pos hm, mix]
  generalize (cell ns k + 104729 * (k + 1)) % 4294967291 = a at a1 a2 ⊢
  have hp : a.natAbs < 2 ^ 64 := by omega
  have hq : ∀ b : Int, (-(2 ^ 64) < b / 64 ∧ b / 64 < 2 ^ 64) ∨ (-(2 ^ 64) < (69621 : Int) ∧ (69621 : Int) < 2 ^ 64) := fun b => .inr (by decide)
  simp only [evF_eq, evB, evS, evE, evA, evI, SO.of, SO.then, ofO, Out.bind, Out.lift, s2_add, s2_addS, s2_addL, s2_addT, s2_sub, s2_mul, s2_mod, s2_fdiv, s2_pow, s2_eq, s2_ne, s2_lt, s2_le, s2_gt, s2_ge, s2_inL, s2_ninL, s2_ixL, s2_ixT, s2_min, s2_max, s1_lenL, s1_lenT, s1_lenW, s1_all, s1_tru, s1_not, List.map_cons, List.map_nil, List.cons_append, List.nil_append, List.append_nil, List.getElem?_cons_zero, List.getElem?_cons_succ, List.length_cons, List.length_nil, Nat.reduceAdd, Nat.reduceSub, List.replicate, List.set_cons_zero, List.set_cons_succ, Option.map_some, Option.bind_some, if_true, if_false, Int.reduceLT, Int.reduceLE, and_self, true_and, and_true, reduceIte, if_pos hp, if_pos (hq _)]
  rfl
theorem run_draw (S : Sub) (ns : List Int) (many : Int) (n : Nat) (hm : 0 < many) (hn : n < line) : r_law_draw S [.scr ns, .town, .int many] n = .ok (.int (draw ns n many)) (n + 1) := by
  have hT : tabOf (c_law_draw S) "_law_mix" = some (2, r_law_mix S) := rfl
  have h0 : (0 : Int) ≤ ((n + 1 : Nat) : Int) := by omega
  simp only [r_law_draw, b_law_draw, evF_eq, evB, evS, evE, evA, evI, SO.of, SO.then, ofO, Out.bind, Out.lift, s2_add, s2_addS, s2_addL, s2_addT, s2_sub, s2_mul, s2_mod, s2_fdiv, s2_pow, s2_eq, s2_ne, s2_lt, s2_le, s2_gt, s2_ge, s2_inL, s2_ninL, s2_ixL, s2_ixT, s2_min, s2_max, s1_lenL, s1_lenT, s1_lenW, s1_all, s1_tru, s1_not, List.map_cons, List.map_nil, List.cons_append, List.nil_append, List.append_nil, List.getElem?_cons_zero, List.getElem?_cons_succ, List.length_cons, List.length_nil, Nat.reduceAdd, Nat.reduceSub, List.replicate, List.set_cons_zero, List.set_cons_succ, Option.map_some, Option.bind_some, if_true, if_false, Int.reduceLT, Int.reduceLE, and_self, true_and, and_true, reduceIte, hT, if_pos hn, run_mix S ns _ _ h0, if_pos hm, draw]
theorem draw_range (ns : List Int) (n : Nat) {many : Int} (hm : 0 < many) : 0 ≤ draw ns n many ∧ draw ns n many < many := by
  unfold draw
  exact ⟨Int.emod_nonneg _ (by omega), Int.emod_lt_of_pos _ hm⟩
theorem run_pick (S : Sub) (ns : List Int) (xs : List D) (n : Nat) (hx : xs ≠ []) (hn : n < line) : ∃ d ∈ xs, r_law_pick S [.scr ns, .town, .lst xs] n = .ok d (n + 1) := by
  have hT : tabOf (c_law_pick S) "_law_draw" = some (3, r_law_draw S) := rfl
  have hl : (0 : Int) < (xs.length : Int) := by
    have : 0 < xs.length := List.length_pos_iff.mpr hx
    omega
  obtain ⟨d0, d1⟩ := draw_range ns n hl
  have h4 : ixN xs.length (draw ns n xs.length) = some (draw ns n xs.length).toNat := by
    unfold ixN; rw [if_pos d0, if_pos d1]
  have h5 : (draw ns n xs.length).toNat < xs.length := by omega
  refine ⟨xs[(draw ns n xs.length).toNat], List.getElem_mem h5, ?_⟩
  simp only [r_law_pick, b_law_pick, evF_eq, evB, evS, evE, evA, evI, SO.of, SO.then, ofO, Out.bind, Out.lift, s2_add, s2_addS, s2_addL, s2_addT, s2_sub, s2_mul, s2_mod, s2_fdiv, s2_pow, s2_eq, s2_ne, s2_lt, s2_le, s2_gt, s2_ge, s2_inL, s2_ninL, s2_ixL, s2_ixT, s2_min, s2_max, s1_lenL, s1_lenT, s1_lenW, s1_all, s1_tru, s1_not, List.map_cons, List.map_nil, List.cons_append, List.nil_append, List.append_nil, List.getElem?_cons_zero, List.getElem?_cons_succ, List.length_cons, List.length_nil, Nat.reduceAdd, Nat.reduceSub, List.replicate, List.set_cons_zero, List.set_cons_succ, Option.map_some, Option.bind_some, if_true, if_false, Int.reduceLT, Int.reduceLE, and_self, true_and, and_true, reduceIte, hT, run_draw S ns _ _ hl hn, h4, List.getElem?_eq_getElem h5]
/-! ### tables -/
def Vt (m : Nat) (t : List (List Int)) : Prop := t.length = m ∧ ∀ r ∈ t, r.length = m ∧ ∀ k ∈ r, 0 ≤ k ∧ k < m
abbrev tup2 (t : List (List Int)) : List D := t.map fun r => .tup (iD r)
abbrev lst2 (t : List (List Int)) : List D := t.map fun r => .lst (iD r)
abbrev tabD (t : List (List Int)) : D := .tup (tup2 t)
def at2 (t : List (List Int)) (a b : Nat) : Int := (t.getD a []).getD b 0
theorem Vt.row {m : Nat} {t : List (List Int)} (h : Vt m t) {a : Nat} (ha : a < m) : ∃ r, t[a]? = some r ∧ t.getD a [] = r ∧ r.length = m ∧ ∀ k ∈ r, 0 ≤ k ∧ k < m := by
  have hl : a < t.length := by rw [h.1]; exact ha
  refine ⟨t[a], List.getElem?_eq_getElem hl, ?_, h.2 _ (List.getElem_mem hl)⟩
  rw [List.getD_eq_getElem?_getD, List.getElem?_eq_getElem hl]; rfl
theorem Vt.at {m : Nat} {t : List (List Int)} (h : Vt m t) {a b : Nat} (ha : a < m) (hb : b < m) : 0 ≤ at2 t a b ∧ at2 t a b < m := by
  obtain ⟨r, h1, h2, h3, h4⟩ := h.row ha
  unfold at2
  rw [h2, List.getD_eq_getElem?_getD, List.getElem?_eq_getElem (by omega)]
  exact h4 _ (List.getElem_mem _)
theorem ix_row {m : Nat} {t : List (List Int)} (h : Vt m t) {i : Int} (h0 : 0 ≤ i) (h1 : i < m) : (ixN (tup2 t).length i).bind (fun j => (tup2 t)[j]?) = some (.tup (iD (t.getD i.toNat []))) := by
  have hl : (tup2 t).length = m := by unfold tup2; rw [List.length_map, h.1]
  rw [hl, ixN_pos h0 h1, Option.bind_some]
  obtain ⟨r, e1, e2, _⟩ := h.row (a := i.toNat) (by omega)
  unfold tup2
  rw [List.getElem?_map, e1, e2]; rfl
theorem ix_cell {m : Nat} {r : List Int} (hr : r.length = m) {i : Int} (h0 : 0 ≤ i) (h1 : i < m) : (ixN (iD r).length i).bind (fun j => (iD r)[j]?) = some (.int (r.getD i.toNat 0)) := by
  rw [iD_length, hr, ixN_pos h0 h1, Option.bind_some, iD_get (by omega), List.getD_eq_getElem?_getD, List.getElem?_eq_getElem (by omega)]; rfl
theorem idx_iD {k : Int} : ∀ {ns : List Int}, k ∈ ns → (iD ns).findIdx? (fun y => eqv y (.int k)) = some (ns.idxOf k)
  | [], h => by cases h
  | a :: r, h => by
    show (D.int a :: iD r).findIdx? _ = _
    rw [List.findIdx?_cons, List.idxOf_cons]
    by_cases e : a = k
    · subst e; simp [eqv]
    · have e1 : eqv (.int a) (.int k) = false := by simp [eqv, e]
      have e2 : (a == k) = false := by simp [e]
      rw [e1, e2]
      have hm : k ∈ r := (List.mem_cons.mp h).resolve_left fun q => e q.symm
      simp [idx_iD hm]
theorem run_index {n : Nat} {ns : List Int} {k : Int} (h : k ∈ ns) : sem2 .index n (.lst (iD ns)) (.int k) = some (.int (ns.idxOf k : Nat)) := by
  have e : sem2 .index n (.lst (iD ns)) (.int k) = if shp deep (.int k) && shpAll deep (iD ns) then ((iD ns).findIdx? fun y => eqv y (.int k)).map (fun j => D.int (j : Nat)) else none := rfl
  rw [e, shp_int, shpAll_iD, idx_iD h]; rfl
/-! ### a table with things called otherwise -/
structure Names (m : Nat) (ns : List Int) : Prop where
  len : ns.length = m
  rng : ∀ k ∈ ns, 0 ≤ k ∧ k < m
  all : ∀ a : Nat, a < m → (a : Int) ∈ ns
def backs (ns : List Int) : List Int := (List.range ns.length).map fun a : Nat => ((ns.idxOf (a : Int) : Nat) : Int)
def named (t : List (List Int)) (ns : List Int) : List (List Int) := (List.range ns.length).map fun a : Nat => (List.range ns.length).map fun b : Nat => ns.getD (at2 t (ns.idxOf (a : Int)) (ns.idxOf (b : Int))).toNat 0
theorem Names.back {m : Nat} {ns : List Int} (h : Names m ns) {a : Nat} (ha : a < m) : ns.idxOf (a : Int) < m := by
  rw [← h.len]; exact List.idxOf_lt_length_of_mem (h.all a ha)
theorem backs_get {m : Nat} {ns : List Int} (h : Names m ns) {a : Nat} (ha : a < m) : (backs ns).getD a 0 = ((ns.idxOf (a : Int) : Nat) : Int) := by
  unfold backs; rw [List.getD_eq_getElem?_getD, List.getElem?_map, List.getElem?_range (by rw [h.len]; exact ha)]; rfl
theorem named_vt {m : Nat} {t : List (List Int)} {ns : List Int} (hv : Vt m t) (h : Names m ns) : Vt m (named t ns) := by
  refine ⟨by simp [named, h.len], fun r hr => ?_⟩
  unfold named at hr
  obtain ⟨a, ha, rfl⟩ := List.mem_map.mp hr
  refine ⟨by simp [h.len], fun k hk => ?_⟩
  obtain ⟨b, hb, rfl⟩ := List.mem_map.mp hk
  rw [List.mem_range, h.len] at ha hb
  obtain ⟨q0, q1⟩ := hv.at (h.back ha) (h.back hb)
  rw [List.getD_eq_getElem?_getD, List.getElem?_eq_getElem (by rw [h.len]; omega)]
  exact h.rng _ (List.getElem_mem _)
theorem run_named (S : Sub) {m : Nat} {t : List (List Int)} {ns : List Int} (hv : Vt m t) (h : Names m ns) (hm : m ≤ 100) (n : Nat) (s : D) (hs : s = .lst (tup2 t) ∨ s = .tup (tup2 t)) : r_law_named S [s, .lst (iD ns)] n = .ok (tabD (named t ns)) n := by
  have hl : ((m : Nat) : Int) ≤ line := by have : line = 16777216 := rfl; omega
  have hlen : (iD ns).length = m := by rw [iD_length, h.len]
  have hix : ∀ i : Int, 0 ≤ i → i < m → ∀ k, sem2 .idx k s (.int i) = some (.tup (iD (t.getD i.toNat []))) := fun i h0 h1 k => by
    rcases hs with rfl | rfl
    · rw [s2_ixL]; exact ix_row hv h0 h1
    · rw [s2_ixT]; exact ix_row hv h0 h1
  unfold r_law_named
  generalize tabOf (c_law_named S) = T
  have e1 : evE S T (.lc [3] (.rg (.p1 .len (.v 1))) (.c (.bl true)) (.mt .index (.v 1) (.v 3))) [some s, some (.lst (iD ns)), none, none, none, none, none] n = .ok (.lst (iD (backs ns))) n := by
    have := ev_lc (S := S) (T := T) (i := 3) (e := .mt .index (.v 1) (.v 3)) (a0 := .rg (.p1 .len (.v 1))) (env := [some s, some (.lst (iD ns)), none, none, none, none, none]) (n := n) (xs := range m) (g := fun x => match x with | .int i => .int (ns.idxOf i : Nat) | d => d)
      (ev_rg (by simp only [evF_eq, evB, evS, evE, evA, evI, SO.of, SO.then, ofO, Out.bind, Out.lift, s2_add, s2_addS, s2_addL, s2_addT, s2_sub, s2_mul, s2_mod, s2_fdiv, s2_pow, s2_eq, s2_ne, s2_lt, s2_le, s2_gt, s2_ge, s2_inL, s2_ninL, s2_ixL, s2_ixT, s2_min, s2_max, s1_lenL, s1_lenT, s1_lenW, s1_all, s1_tru, s1_not, List.map_cons, List.map_nil, List.cons_append, List.nil_append, List.append_nil, List.getElem?_cons_zero, List.getElem?_cons_succ, List.length_cons, List.length_nil, Nat.reduceAdd, Nat.reduceSub, List.replicate, List.set_cons_zero, List.set_cons_succ, Option.map_some, Option.bind_some, if_true, if_false, Int.reduceLT, Int.reduceLE, and_self, true_and, and_true, reduceIte, hlen]) hl (by omega)) fun x hx => by
        obtain ⟨k, hk, rfl⟩ := mem_range hx
        simp only [evF_eq, evB, evS, evE, evA, evI, SO.of, SO.then, ofO, Out.bind, Out.lift, s2_add, s2_addS, s2_addL, s2_addT, s2_sub, s2_mul, s2_mod, s2_fdiv, s2_pow, s2_eq, s2_ne, s2_lt, s2_le, s2_gt, s2_ge, s2_inL, s2_ninL, s2_ixL, s2_ixT, s2_min, s2_max, s1_lenL, s1_lenT, s1_lenW, s1_all, s1_tru, s1_not, List.map_cons, List.map_nil, List.cons_append, List.nil_append, List.append_nil, List.getElem?_cons_zero, List.getElem?_cons_succ, List.length_cons, List.length_nil, Nat.reduceAdd, Nat.reduceSub, List.replicate, List.set_cons_zero, List.set_cons_succ, Option.map_some, Option.bind_some, if_true, if_false, Int.reduceLT, Int.reduceLE, and_self, true_and, and_true, reduceIte, run_index (h.all k (by omega))]
    rw [this, range_map]
    simp only [backs, iD, List.map_map, h.len, Int.toNat_natCast]
    rfl
  have hb : ∀ a : Nat, a < m → ∀ k, sem2 .idx k (.lst (iD (backs ns))) (.int (a : Nat)) = some (.int (ns.idxOf (a : Int) : Nat)) := fun a ha k => by
    rw [s2_ixL, ix_cell (m := m) (by simp [backs, h.len]) (by omega) (by omega), Int.toNat_natCast, backs_get h ha]
  have hcell : ∀ a b : Nat, a < m → b < m → ∀ k, sem2 .idx k (.tup (iD (t.getD (ns.idxOf (a : Int)) []))) (.int (ns.idxOf (b : Int) : Nat)) = some (.int (at2 t (ns.idxOf (a : Int)) (ns.idxOf (b : Int)))) := fun a b ha hb' k => by
    obtain ⟨r, q1, q2, q3, _⟩ := hv.row (h.back ha)
    have hbb := h.back hb'
    rw [s2_ixT, q2, ix_cell q3 (by omega) (by omega), Int.toNat_natCast]
    unfold at2; rw [q2]
  have hname : ∀ i : Int, 0 ≤ i → i < m → ∀ k, sem2 .idx k (.lst (iD ns)) (.int i) = some (.int (ns.getD i.toNat 0)) := fun i h0 h1 k => by
    rw [s2_ixL, ix_cell h.len h0 h1]
  have loop := forL_run (tg := [5]) (b := evB S T b_law_named_L0) (fun i env k => k = n ∧ i ≤ m ∧ ∃ x5, env = [some s, some (.lst (iD ns)), some (.lst (iD (backs ns))), none, some (.lst (tup2 ((named t ns).take i))), x5, none]) (range m) 0 [some s, some (.lst (iD ns)), some (.lst (iD (backs ns))), none, some (.lst []), none, none] n
    (fun i x env k hx hI => by
      obtain ⟨rfl, hi, x5, rfl⟩ := hI
      obtain ⟨him, rfl⟩ := range_get hx
      have e2 : evE S T (.lc [6] (.rg (.p1 .len (.v 1))) (.c (.bl true)) (.p2 .idx (.v 1) (.p2 .idx (.p2 .idx (.v 0) (.p2 .idx (.v 2) (.v 5))) (.p2 .idx (.v 2) (.v 6))))) [some s, some (.lst (iD ns)), some (.lst (iD (backs ns))), none, some (.lst (tup2 ((named t ns).take (0 + i)))), some (.int (i : Nat)), none] k =
          .ok (.lst (iD ((List.range ns.length).map fun b : Nat => ns.getD (at2 t (ns.idxOf (i : Int)) (ns.idxOf (b : Int))).toNat 0))) k := by
        have := ev_lc (S := S) (T := T) (i := 6) (e := .p2 .idx (.v 1) (.p2 .idx (.p2 .idx (.v 0) (.p2 .idx (.v 2) (.v 5))) (.p2 .idx (.v 2) (.v 6)))) (a0 := .rg (.p1 .len (.v 1))) (env := [some s, some (.lst (iD ns)), some (.lst (iD (backs ns))), none, some (.lst (tup2 ((named t ns).take (0 + i)))), some (.int (i : Nat)), none]) (n := k) (xs := range m)
          (g := fun x => match x with | .int b => .int (ns.getD (at2 t (ns.idxOf (i : Int)) (ns.idxOf b)).toNat 0) | d => d)
          (ev_rg (by simp only [evF_eq, evB, evS, evE, evA, evI, SO.of, SO.then, ofO, Out.bind, Out.lift, s2_add, s2_addS, s2_addL, s2_addT, s2_sub, s2_mul, s2_mod, s2_fdiv, s2_pow, s2_eq, s2_ne, s2_lt, s2_le, s2_gt, s2_ge, s2_inL, s2_ninL, s2_ixL, s2_ixT, s2_min, s2_max, s1_lenL, s1_lenT, s1_lenW, s1_all, s1_tru, s1_not, List.map_cons, List.map_nil, List.cons_append, List.nil_append, List.append_nil, List.getElem?_cons_zero, List.getElem?_cons_succ, List.length_cons, List.length_nil, Nat.reduceAdd, Nat.reduceSub, List.replicate, List.set_cons_zero, List.set_cons_succ, Option.map_some, Option.bind_some, if_true, if_false, Int.reduceLT, Int.reduceLE, and_self, true_and, and_true, reduceIte, hlen]) hl (by omega)) fun x hx => by
            obtain ⟨b, hb', rfl⟩ := mem_range hx
            have hbm : b < m := by omega
            have hbi := h.back him
            obtain ⟨c0, c1⟩ := hv.at (h.back him) (h.back hbm)
            have hrow := hix ((ns.idxOf (i : Int) : Nat) : Int) (by omega) (by omega)
            rw [Int.toNat_natCast] at hrow
            simp only [evE, Out.bind, Out.lift, List.getElem?_cons_zero, List.getElem?_cons_succ, List.set_cons_succ, List.set_cons_zero, hb i him, hb b hbm, hrow, hcell i b him hbm, hname _ c0 c1]
        rw [this, range_map]
        simp only [iD, List.map_map, h.len, Int.toNat_natCast]
        rfl
      have ht : (named t ns).take (0 + i + 1) = (named t ns).take (0 + i) ++ [(List.range ns.length).map fun b : Nat => ns.getD (at2 t (ns.idxOf (i : Int)) (ns.idxOf (b : Int))).toNat 0] := by
        rw [List.take_add_one]
        congr 1
        unfold named
        rw [List.getElem?_map, List.getElem?_range (by rw [h.len]; omega), Nat.zero_add]
        rfl
      have hlt : (tup2 ((named t ns).take (0 + i))).length < line := by
        have : line = 16777216 := rfl
        simp only [tup2, List.length_map, List.length_take]
        omega
      refine ⟨_, _, k, rfl, ?_, rfl, by omega, some (.int (i : Nat)), rfl⟩
      have e3 : tup2 ((named t ns).take (0 + i + 1)) = tup2 ((named t ns).take (0 + i)) ++ [.tup (iD ((List.range ns.length).map fun b : Nat => ns.getD (at2 t (ns.idxOf (i : Int)) (ns.idxOf (b : Int))).toNat 0))] := by
        rw [ht]; simp [tup2]
      rw [e3]
      simp only [List.set_cons_succ, List.set_cons_zero, b_law_named_L0, evB, evS, getL, ofO, List.getElem?_cons_zero, List.getElem?_cons_succ, evE.eq_4, e2, Out.bind, Out.lift, sem1, SO.of, if_pos hlt, putL, SO.then])
    ⟨rfl, Nat.zero_le _, none, by simp [tup2]⟩
  obtain ⟨env', n', f1, rfl, hi, x5, rfl⟩ := loop
  have er : evI S T (.rg (.p1 .len (.v 1))) [some s, some (.lst (iD ns)), some (.lst (iD (backs ns))), none, some (.lst []), none, none] n' = .ok (range m) n' := ev_rg (by simp only [evF_eq, evB, evS, evE, evA, evI, SO.of, SO.then, ofO, Out.bind, Out.lift, s2_add, s2_addS, s2_addL, s2_addT, s2_sub, s2_mul, s2_mod, s2_fdiv, s2_pow, s2_eq, s2_ne, s2_lt, s2_le, s2_gt, s2_ge, s2_inL, s2_ninL, s2_ixL, s2_ixT, s2_min, s2_max, s1_lenL, s1_lenT, s1_lenW, s1_all, s1_tru, s1_not, List.map_cons, List.map_nil, List.cons_append, List.nil_append, List.append_nil, List.getElem?_cons_zero, List.getElem?_cons_succ, List.length_cons, List.length_nil, Nat.reduceAdd, Nat.reduceSub, List.replicate, List.set_cons_zero, List.set_cons_succ, Option.map_some, Option.bind_some, if_true, if_false, Int.reduceLT, Int.reduceLE, and_self, true_and, and_true, reduceIte, hlen]) hl (by omega)
  have htk : (named t ns).take (0 + (range (m : Int)).length) = named t ns := by
    rw [range_length, Nat.zero_add]
    exact List.take_of_length_le (by rw [(named_vt hv h).1]; exact Nat.le_refl _)
  rw [htk] at f1
  simp only [evF_eq, b_law_named, List.map_cons, List.map_nil, List.length_cons, List.length_nil, Nat.reduceAdd, Nat.reduceSub, List.replicate, List.cons_append, List.nil_append]
  rw [evB_nx (env' := [some s, some (.lst (iD ns)), some (.lst (iD (backs ns))), none, none, none, none]) (n' := n') (by simp only [evS, e1, SO.of, List.set_cons_succ, List.set_cons_zero]),
    evB_nx (env' := [some s, some (.lst (iD ns)), some (.lst (iD (backs ns))), none, some (.lst []), none, none]) (n' := n') rfl,
    evB_nx (env' := [some s, some (.lst (iD ns)), some (.lst (iD (backs ns))), none, some (.lst (tup2 (named t ns))), x5, none]) (n' := n') (by simp only [evS, er, SO.of]; exact f1)]
  rfl
/-! ### a drawn table -/
theorem set_rng {m : Nat} {r : List Int} (hr : ∀ k ∈ r, 0 ≤ k ∧ k < (m : Int)) (j : Nat) {v : Int} (hv : 0 ≤ v ∧ v < (m : Int)) : ∀ k ∈ r.set j v, 0 ≤ k ∧ k < (m : Int) := fun k hk => by
  rcases List.mem_or_eq_of_mem_set hk with h | h
  · exact hr k h
  · subst h; exact hv
theorem names_rI (m : Nat) : Names m (rI m) := ⟨rI_length m, fun k hk => rI_mem.mp hk, fun a ha => rI_mem.mpr ⟨by omega, by omega⟩⟩
theorem names_swap {m : Nat} {ns : List Int} (h : Names m ns) {i j : Nat} (hi : i < m) (hj : j < m) : Names m ((ns.set i (ns.getD j 0)).set j (ns.getD i 0)) := by
  have gi : ns.getD i 0 = ns[i]'(by rw [h.len]; exact hi) := by rw [List.getD_eq_getElem?_getD, List.getElem?_eq_getElem (by rw [h.len]; exact hi)]; rfl
  have gj : ns.getD j 0 = ns[j]'(by rw [h.len]; exact hj) := by rw [List.getD_eq_getElem?_getD, List.getElem?_eq_getElem (by rw [h.len]; exact hj)]; rfl
  refine ⟨by simp [h.len], ?_, fun a ha => ?_⟩
  · refine set_rng (set_rng h.rng i ?_) j ?_
    · rw [gj]; exact h.rng _ (List.getElem_mem _)
    · rw [gi]; exact h.rng _ (List.getElem_mem _)
  · obtain ⟨p, hp, e⟩ := List.getElem_of_mem (h.all a ha)
    have hpm : p < m := by rw [← h.len]; exact hp
    rw [List.mem_iff_getElem?]
    by_cases q1 : p = i
    · subst q1
      exact ⟨j, by rw [List.getElem?_set_self (by simp [h.len]; exact hj), gi, e]⟩
    · by_cases q2 : p = j
      · subst q2
        refine ⟨i, ?_⟩
        rw [List.getElem?_set_ne q1, List.getElem?_set_self (by rw [h.len]; exact hi), gj, e]
      · refine ⟨p, ?_⟩
        rw [List.getElem?_set_ne (Ne.symm q2), List.getElem?_set_ne (Ne.symm q1), List.getElem?_eq_getElem hp, e]
theorem isEq_int (i j : Int) : isEq (.int i) (.int j) = some (i == j) := rfl
theorem ev_draw (S : Sub) {T : Tab} (hD : T "_law_draw" = some (3, r_law_draw S)) {env : Ev} {ns : List Int} {e : ME} {m : Int} {n : Nat} (h0 : env[0]? = some (some (.scr ns))) (h1 : env[1]? = some (some .town)) (he : evE S T e env n = .ok (.int m) n) (hm : 0 < m) (hn : n < line) :
    evE S T (.call "_law_draw" (.cons (.v 0) (.cons (.v 1) (.cons e .nil)))) env n = .ok (.int (draw ns n m)) (n + 1) := by
  simp only [evE, evA, hD, h0, h1, he, Out.bind, List.length_cons, List.length_nil, Nat.reduceAdd, if_true, run_draw S ns m n hm hn]
def some7 (m a b : Int) : List Int := [(a + b) % m, if b < a then b else a, if b > a then b else a, a, b, (a - b) % m, a * b % m]
theorem some7_rng {m a b : Int} (ha : 0 ≤ a ∧ a < m) (hb : 0 ≤ b ∧ b < m) : ∀ k ∈ some7 m a b, 0 ≤ k ∧ k < m := fun k hk => by
  have hm : 0 < m := by omega
  have md : ∀ x : Int, 0 ≤ x % m ∧ x % m < m := fun x => ⟨Int.emod_nonneg _ (by omega), Int.emod_lt_of_pos _ hm⟩
  simp only [some7, List.mem_cons, List.not_mem_nil, or_false] at hk
  rcases hk with rfl | rfl | rfl | rfl | rfl | rfl | rfl
  · exact md _
  · split <;> omega
  · split <;> omega
  · exact ha
  · exact hb
  · exact md _
  · exact md _
theorem fit7 (d1 d2 d3 d4 d5 d6 d7 : D) : fit [d1, d2, d3, d4, d5, d6, d7] = some [d1, d2, d3, d4, d5, d6, d7] := by
  have : line = 16777216 := rfl
  unfold fit; rw [if_pos (by simp only [List.length_cons, List.length_nil]; omega)]
theorem tab_some (S : Sub) {T : Tab} (e0 e1 e2 rows x9 : Option D) (m a b : Nat) (kd : D) (h6 : m ≤ 6) (ha : a < m) (hb : b < m) (row : D) (n : Nat) : evS S T (.set 9 (.lst (.cons (.p2 .mod (.p2 .add (.v 6) (.v 8)) (.v 3)) (.cons (.p2 .min2 (.v 6) (.v 8)) (.cons (.p2 .max2 (.v 6) (.v 8)) (.cons (.v 6) (.cons (.v 8) (.cons (.p2 .mod (.p2 .sub (.v 6) (.v 8)) (.v 3)) (.cons (.p2 .mod (.p2 .mul (.v 6) (.v 8)) (.v 3)) .nil))))))))) [e0, e1, e2, some (.int (m : Nat)), some kd, rows, some (.int (a : Nat)), some row, some (.int (b : Nat)), x9, none, none, none] n =
      .nx [e0, e1, e2, some (.int (m : Nat)), some kd, rows, some (.int (a : Nat)), some row, some (.int (b : Nat)), some (.lst (iD (some7 m a b))), none, none, none] n := by
  have hm : (0 : Int) < (m : Nat) := by omega
  generalize hE : [e0, e1, e2, some (.int (m : Nat)), some kd, rows, some (.int (a : Nat)), some row, some (.int (b : Nat)), x9, none, none, none] = E
  have v3 : evE S T (.v 3) E n = .ok (.int (m : Nat)) n := by subst hE; rfl
  have v6 : evE S T (.v 6) E n = .ok (.int (a : Nat)) n := by subst hE; rfl
  have v8 : evE S T (.v 8) E n = .ok (.int (b : Nat)) n := by subst hE; rfl
  have p2 : ∀ (p : P2) (x y : ME) (d e r : D), evE S T x E n = .ok d n → evE S T y E n = .ok e n → sem2 p n d e = some r → evE S T (.p2 p x y) E n = .ok r n := fun p x y d e r h1 h2 h3 => by simp only [evE, h1, h2, h3, Out.bind, Out.lift]
  have mulc : sem2 .mul n (.int (a : Nat)) (.int (b : Nat)) = some (.int ((a : Nat) * (b : Nat))) := by rw [s2_mul, if_pos (.inl ⟨by omega, by omega⟩)]
  have md : ∀ x : Int, sem2 .mod n (.int x) (.int (m : Nat)) = some (.int (x % (m : Nat))) := fun x => by rw [s2_mod, if_pos hm]
  have q1 := p2 .mod _ _ _ _ _ (p2 .add _ _ _ _ _ v6 v8 (s2_add ..)) v3 (md _)
  have q2 := p2 .min2 _ _ _ _ _ v6 v8 (s2_min ..)
  have q3 := p2 .max2 _ _ _ _ _ v6 v8 (s2_max ..)
  have q6 := p2 .mod _ _ _ _ _ (p2 .sub _ _ _ _ _ v6 v8 (s2_sub ..)) v3 (md _)
  have q7 := p2 .mod _ _ _ _ _ (p2 .mul _ _ _ _ _ v6 v8 mulc) v3 (md _)
  have ac : ∀ (x : ME) (xs : MEs) (d : D) (ds : List D), evE S T x E n = .ok d n → evA S T xs E n = .ok ds n → evA S T (.cons x xs) E n = .ok (d :: ds) n := fun x xs d ds h1 h2 => by simp only [evA, h1, h2, Out.bind]
  have all := ac _ _ _ _ q1 (ac _ _ _ _ q2 (ac _ _ _ _ q3 (ac _ _ _ _ v6 (ac _ _ _ _ v8 (ac _ _ _ _ q6 (ac _ _ _ _ q7 (show evA S T .nil E n = .ok [] n from rfl)))))))
  have lst : ∀ (xs : MEs) (ds : List D), evA S T xs E n = .ok ds n → fit ds = some ds → evS S T (.set 9 (.lst xs)) E n = .nx (E.set 9 (some (.lst ds))) n := fun xs ds h1 h2 => by simp only [evS, evE, h1, h2, Out.bind, Option.map_some, Out.lift, SO.of]
  rw [lst _ _ all (fit7 ..)]
  subst hE
  rfl
/-- one place of a row -/
theorem tab_cell (S : Sub) {T : Tab} (hD : T "_law_draw" = some (3, r_law_draw S)) (ns : List Int) (most rows x9 : Option D) (m a b : Nat) (kd : Int) (h6 : m ≤ 6) (ha : a < m) (hb : b < m) (hk : 0 ≤ kd ∧ kd < 8) (row : List Int) (hl : row.length < line) (n : Nat) (hn : n < line) :
    ∃ v x9' n', n' ≤ n + 1 ∧ (0 ≤ v ∧ v < (m : Int)) ∧ evB S T b_law_table_L1 [some (.scr ns), some .town, most, some (.int (m : Nat)), some (.int kd), rows, some (.int (a : Nat)), some (.lst (iD row)), some (.int (b : Nat)), x9, none, none, none] n =
      .nx [some (.scr ns), some .town, most, some (.int (m : Nat)), some (.int kd), rows, some (.int (a : Nat)), some (.lst (iD (row ++ [v]))), some (.int (b : Nat)), x9', none, none, none] n' := by
  have hm : (0 : Int) < (m : Nat) := by omega
  have hlr : (iD row).length < line := by rw [iD_length]; exact hl
  have e1 := fun n => tab_some S (T := T) (some (.scr ns)) (some .town) most rows x9 m a b (.int kd) h6 ha hb (.lst (iD row)) n
  by_cases h : kd < 7
  · have hq := ix_cell (r := some7 m a b) (m := 7) rfl hk.1 h
    have hv := some7_rng (m := (m : Int)) (a := (a : Int)) (b := (b : Int)) ⟨by omega, by omega⟩ ⟨by omega, by omega⟩
    refine ⟨(some7 m a b).getD kd.toNat 0, some (.lst (iD (some7 m a b))), n, by omega, ?_, ?_⟩
    · rw [List.getD_eq_getElem?_getD, List.getElem?_eq_getElem (show kd.toNat < (some7 m a b).length by show kd.toNat < 7; omega)]
      exact hv _ (List.getElem_mem _)
    · unfold b_law_table_L1
      rw [evB_nx (e1 n)]
      have ed : decide (kd < 7) = true := decide_eq_true h
      simp only [evF_eq, evB, evS, evE, evA, evI, SO.of, SO.then, ofO, Out.bind, Out.lift, s2_add, s2_addS, s2_addL, s2_addT, s2_sub, s2_mul, s2_mod, s2_fdiv, s2_pow, s2_eq, s2_ne, s2_lt, s2_le, s2_gt, s2_ge, s2_inL, s2_ninL, s2_ixL, s2_ixT, s2_min, s2_max, s1_lenL, s1_lenT, s1_lenW, s1_all, s1_tru, s1_not, List.map_cons, List.map_nil, List.cons_append, List.nil_append, List.append_nil, List.getElem?_cons_zero, List.getElem?_cons_succ, List.length_cons, List.length_nil, Nat.reduceAdd, Nat.reduceSub, List.replicate, List.set_cons_zero, List.set_cons_succ, Option.map_some, Option.bind_some, if_true, if_false, Int.reduceLT, Int.reduceLE, and_self, true_and, and_true, reduceIte, getL, putL, ed, hq, if_pos hlr]
      simp [iD]
  · have hd := draw_range ns n hm
    refine ⟨draw ns n m, some (.lst (iD (some7 m a b))), n + 1, by omega, hd, ?_⟩
    unfold b_law_table_L1
    rw [evB_nx (e1 n)]
    have ed : decide (kd < 7) = false := decide_eq_false h
    simp only [evF_eq, evB, evS, evE, evA, evI, SO.of, SO.then, ofO, Out.bind, Out.lift, s2_add, s2_addS, s2_addL, s2_addT, s2_sub, s2_mul, s2_mod, s2_fdiv, s2_pow, s2_eq, s2_ne, s2_lt, s2_le, s2_gt, s2_ge, s2_inL, s2_ninL, s2_ixL, s2_ixT, s2_min, s2_max, s1_lenL, s1_lenT, s1_lenW, s1_all, s1_tru, s1_not, List.map_cons, List.map_nil, List.cons_append, List.nil_append, List.append_nil, List.getElem?_cons_zero, List.getElem?_cons_succ, List.length_cons, List.length_nil, Nat.reduceAdd, Nat.reduceSub, List.replicate, List.set_cons_zero, List.set_cons_succ, Option.map_some, Option.bind_some, if_true, if_false, Int.reduceLT, Int.reduceLE, and_self, true_and, and_true, reduceIte, getL, putL, ed, hD, run_draw S ns _ _ hm hn, if_pos hlr]
    simp [iD]
/-- one row -/
theorem tab_row (S : Sub) {T : Tab} (hD : T "_law_draw" = some (3, r_law_draw S)) (ns : List Int) (most : Option D) (x6 x8 x9 : Option D) (m a : Nat) (kd : Int) (h6 : m ≤ 6) (ha : a < m) (hk : 0 ≤ kd ∧ kd < 8) (t : List (List Int)) (ht : t.length < 7) (n : Nat) (hn : n + 6 < line) :
    ∃ r x8' x9' n', n' ≤ n + m ∧ (r.length = m ∧ ∀ k ∈ r, 0 ≤ k ∧ k < (m : Int)) ∧ evB S T b_law_table_L2 [some (.scr ns), some .town, most, some (.int (m : Nat)), some (.int kd), some (.lst (lst2 t)), some (.int (a : Nat)), none, x8, x9, none, none, none] n =
      .nx [some (.scr ns), some .town, most, some (.int (m : Nat)), some (.int kd), some (.lst (lst2 (t ++ [r]))), some (.int (a : Nat)), none, x8', x9', none, none, none] n' := by
  have hl : ((m : Nat) : Int) ≤ line := by have : line = 16777216 := rfl; omega
  have loop := forL_run (tg := [8]) (b := evB S T b_law_table_L1) (fun i env k => k ≤ n + i ∧ i ≤ m ∧ ∃ r x8 x9, r.length = i ∧ (∀ k ∈ r, 0 ≤ k ∧ k < (m : Int)) ∧ env = [some (.scr ns), some .town, most, some (.int (m : Nat)), some (.int kd), some (.lst (lst2 t)), some (.int (a : Nat)), some (.lst (iD r)), x8, x9, none, none, none]) (range m) 0 [some (.scr ns), some .town, most, some (.int (m : Nat)), some (.int kd), some (.lst (lst2 t)), some (.int (a : Nat)), some (.lst []), x8, x9, none, none, none] n
    (fun i x env k hx hI => by
      obtain ⟨hk1, hi, r, x8, x9, hr1, hr2, rfl⟩ := hI
      obtain ⟨him, rfl⟩ := range_get hx
      have : line = 16777216 := rfl
      obtain ⟨v, x9', n', q1, q2, q3⟩ := tab_cell S hD ns most (some (.lst (lst2 t))) x9 m a i kd h6 ha him hk r (by omega) k (by omega)
      refine ⟨_, _, n', rfl, q3, by omega, by omega, r ++ [v], _, _, by simp [hr1], fun k hk => ?_, rfl⟩
      rcases List.mem_append.mp hk with h | h
      · exact hr2 k h
      · rw [List.mem_singleton] at h; subst h; exact q2)
    ⟨by omega, Nat.zero_le _, [], _, _, rfl, by simp, rfl⟩
  obtain ⟨env', n', f1, hk1, hi, r, x8', x9', hr1, hr2, rfl⟩ := loop
  rw [range_length, Nat.zero_add] at hk1 hr1
  refine ⟨r, x8', x9', n', hk1, ⟨hr1, hr2⟩, ?_⟩
  unfold b_law_table_L2
  have hlt : (lst2 t).length < line := by
    have : line = 16777216 := rfl
    unfold lst2; rw [List.length_map]; omega
  rw [evB_nx (env' := [some (.scr ns), some .town, most, some (.int (m : Nat)), some (.int kd), some (.lst (lst2 t)), some (.int (a : Nat)), some (.lst []), x8, x9, none, none, none]) (n' := n) rfl]
  have er : evI S T (.rg (.v 3)) [some (.scr ns), some .town, most, some (.int (m : Nat)), some (.int kd), some (.lst (lst2 t)), some (.int (a : Nat)), some (.lst []), x8, x9, none, none, none] n = .ok (range m) n := ev_rg rfl hl (by omega)
  rw [evB_nx (show evS S T (.for_ [8] (.rg (.v 3)) b_law_table_L1) _ n = _ from by simp only [evS, er, SO.of]; exact f1)]
  simp only [evF_eq, evB, evS, evE, evA, evI, SO.of, SO.then, ofO, Out.bind, Out.lift, s2_add, s2_addS, s2_addL, s2_addT, s2_sub, s2_mul, s2_mod, s2_fdiv, s2_pow, s2_eq, s2_ne, s2_lt, s2_le, s2_gt, s2_ge, s2_inL, s2_ninL, s2_ixL, s2_ixT, s2_min, s2_max, s1_lenL, s1_lenT, s1_lenW, s1_all, s1_tru, s1_not, List.map_cons, List.map_nil, List.cons_append, List.nil_append, List.append_nil, List.getElem?_cons_zero, List.getElem?_cons_succ, List.length_cons, List.length_nil, Nat.reduceAdd, Nat.reduceSub, List.replicate, List.set_cons_zero, List.set_cons_succ, Option.map_some, Option.bind_some, if_true, if_false, Int.reduceLT, Int.reduceLE, and_self, true_and, and_true, reduceIte, getL, putL, if_pos hlt]
  simp [lst2]
theorem lst2_tup (t : List (List Int)) : (lst2 t).map (fun d => match d with | .lst xs => D.tup xs | d => d) = tup2 t := by
  unfold lst2 tup2; rw [List.map_map]; rfl
theorem run_table (S : Sub) (ns : List Int) (most : Nat) (n : Nat) (h1 : 1 ≤ most) (h6 : most ≤ 6) (hn : n + 60 ≤ line) : ∃ m t n', 1 ≤ m ∧ m ≤ most ∧ Vt m t ∧ n' ≤ n + 60 ∧ r_law_table S [.scr ns, .town, .int (most : Nat)] n = .ok (tabD t) n' := by
  have hline : line = 16777216 := rfl
  unfold r_law_table
  have hD : tabOf (c_law_table S) "_law_draw" = some (3, r_law_draw S) := rfl
  have hN : tabOf (c_law_table S) "_law_named" = some (2, r_law_named S) := rfl
  generalize tabOf (c_law_table S) = T at hD hN ⊢
  have hmost : (0 : Int) < (most : Nat) := by omega
  obtain ⟨d0, d1⟩ := draw_range ns n hmost
  obtain ⟨m, hm⟩ : ∃ m : Nat, (1 : Int) + draw ns n (most : Nat) = (m : Nat) := ⟨(1 + draw ns n (most : Nat)).toNat, by omega⟩
  obtain ⟨k0, k1⟩ := draw_range ns (n + 1) (show (0 : Int) < 8 by decide)
  generalize hkd : draw ns (n + 1) 8 = kd at k0 k1
  have hl : ((m : Nat) : Int) ≤ line := by omega
  have hmp : (0 : Int) < (m : Nat) := by omega
  -- the rows
  have loop := forL_run (tg := [6]) (b := evB S T b_law_table_L2) (fun i env k => k ≤ n + 2 + i * m ∧ i ≤ m ∧ ∃ t x6 x8 x9, t.length = i ∧ (∀ r ∈ t, r.length = m ∧ ∀ k ∈ r, 0 ≤ k ∧ k < (m : Int)) ∧ env = [some (.scr ns), some .town, some (.int (most : Nat)), some (.int (m : Nat)), some (.int kd), some (.lst (lst2 t)), x6, none, x8, x9, none, none, none]) (range m) 0 [some (.scr ns), some .town, some (.int (most : Nat)), some (.int (m : Nat)), some (.int kd), some (.lst []), none, none, none, none, none, none, none] (n + 1 + 1)
    (fun i x env k hx hI => by
      obtain ⟨hk1, hi, t, x6, x8, x9, ht1, ht2, rfl⟩ := hI
      obtain ⟨him, rfl⟩ := range_get hx
      have hmm : (0 + i) * m ≤ 36 := Nat.le_trans (Nat.mul_le_mul (show 0 + i ≤ 6 by omega) (show m ≤ 6 by omega)) (by decide)
      obtain ⟨r, x8', x9', n', q1, q2, q3⟩ := tab_row S hD ns (some (.int (most : Nat))) x6 x8 x9 m i kd (by omega) him ⟨k0, k1⟩ t (by omega) k (by omega)
      refine ⟨_, _, n', rfl, q3, by rw [Nat.add_mul, Nat.one_mul]; omega, by omega, t ++ [r], _, _, _, by simp [ht1], fun r' hr' => ?_, rfl⟩
      rcases List.mem_append.mp hr' with h | h
      · exact ht2 r' h
      · rw [List.mem_singleton] at h; subst h; exact q2)
    ⟨by omega, Nat.zero_le _, [], _, _, _, rfl, by simp, rfl⟩
  obtain ⟨env1, n1, f1, hn1, _, t, x6, x8, x9, ht1, ht2, rfl⟩ := loop
  rw [range_length, Nat.zero_add] at hn1 ht1
  have hmm : m * m ≤ 36 := Nat.le_trans (Nat.mul_le_mul (show m ≤ 6 by omega) (show m ≤ 6 by omega)) (by decide)
  -- one place
  have st : ∃ t2 n2, n2 ≤ n1 + 4 ∧ Vt m t2 ∧ evS S T (.if_ (.p2 .eq (.call "_law_draw" (.cons (.v 0) (.cons (.v 1) (.cons (.c (.int 3)) .nil)))) (.c (.int 0))) (.cons (.st2 5 (.call "_law_draw" (.cons (.v 0) (.cons (.v 1) (.cons (.v 3) .nil)))) (.call "_law_draw" (.cons (.v 0) (.cons (.v 1) (.cons (.v 3) .nil)))) (.call "_law_draw" (.cons (.v 0) (.cons (.v 1) (.cons (.v 3) .nil))))) .nil) .nil) [some (.scr ns), some .town, some (.int (most : Nat)), some (.int (m : Nat)), some (.int kd), some (.lst (lst2 t)), x6, none, x8, x9, none, none, none] n1 =
      .nx [some (.scr ns), some .town, some (.int (most : Nat)), some (.int (m : Nat)), some (.int kd), some (.lst (lst2 t2)), x6, none, x8, x9, none, none, none] n2 := by
    have e3 := run_draw S ns 3 n1 (by decide) (by omega)
    by_cases h0 : draw ns n1 3 = 0
    · have hb : (draw ns n1 3 == 0) = true := by rw [h0]; rfl
      obtain ⟨v0, v1⟩ := draw_range ns (n1 + 1) hmp
      obtain ⟨a0, a1⟩ := draw_range ns (n1 + 1 + 1) hmp
      obtain ⟨b0, b1⟩ := draw_range ns (n1 + 1 + 1 + 1) hmp
      have r1 := run_draw S ns (m : Nat) (n1 + 1) hmp (by omega)
      have r2 := run_draw S ns (m : Nat) (n1 + 1 + 1) hmp (by omega)
      have r3 := run_draw S ns (m : Nat) (n1 + 1 + 1 + 1) hmp (by omega)
      generalize draw ns (n1 + 1) (m : Nat) = v at *
      generalize draw ns (n1 + 1 + 1) (m : Nat) = a at *
      generalize draw ns (n1 + 1 + 1 + 1) (m : Nat) = b at *
      have la : a.toNat < t.length := by omega
      have hlen : (lst2 t).length = m := by unfold lst2; rw [List.length_map, ht1]
      have ga : (lst2 t)[a.toNat]? = some (.lst (iD t[a.toNat])) := by unfold lst2; rw [List.getElem?_map, List.getElem?_eq_getElem la]; rfl
      have hrow := ht2 _ (List.getElem_mem la)
      have gM : getM [some (.scr ns), some .town, some (.int (most : Nat)), some (.int (m : Nat)), some (.int kd), some (.lst (lst2 t)), x6, none, x8, x9, none, none, none] 5 a.toNat = some (iD t[a.toNat]) := by
        unfold getM
        simp only [getL, List.getElem?_cons_succ, List.getElem?_cons_zero, Option.bind_some, ga]
      refine ⟨t.set a.toNat (t[a.toNat].set b.toNat v), n1 + 1 + 1 + 1 + 1, by omega, ⟨by simp [ht1], fun r hr => ?_⟩, ?_⟩
      · rcases List.mem_or_eq_of_mem_set hr with h | h
        · exact ht2 r h
        · subst h
          exact ⟨by simp [hrow.1], set_rng hrow.2 _ ⟨v0, v1⟩⟩
      · have i1 := ixN_pos (n := (lst2 t).length) a0 (by rw [hlen]; exact a1)
        have i2 := ixN_pos (n := (iD t[a.toNat]).length) b0 (by rw [iD_length, hrow.1]; exact b1)
        simp only [evF_eq, evB, evS, evE, evA, evI, SO.of, SO.then, ofO, Out.bind, Out.lift, s2_add, s2_addS, s2_addL, s2_addT, s2_sub, s2_mul, s2_mod, s2_fdiv, s2_pow, s2_eq, s2_ne, s2_lt, s2_le, s2_gt, s2_ge, s2_inL, s2_ninL, s2_ixL, s2_ixT, s2_min, s2_max, s1_lenL, s1_lenT, s1_lenW, s1_all, s1_tru, s1_not, List.map_cons, List.map_nil, List.cons_append, List.nil_append, List.append_nil, List.getElem?_cons_zero, List.getElem?_cons_succ, List.length_cons, List.length_nil, Nat.reduceAdd, Nat.reduceSub, List.replicate, List.set_cons_zero, List.set_cons_succ, Option.map_some, Option.bind_some, if_true, if_false, Int.reduceLT, Int.reduceLE, and_self, true_and, and_true, reduceIte, hD, e3, isEq_int, hb, r1, r2, r3, getL, putL, i1, i2, gM]
        simp [lst2, iD, List.map_set]
    · have hb : (draw ns n1 3 == 0) = false := by simp [h0]
      refine ⟨t, n1 + 1, by omega, ⟨ht1, ht2⟩, ?_⟩
      simp only [evF_eq, evB, evS, evE, evA, evI, SO.of, SO.then, ofO, Out.bind, Out.lift, s2_add, s2_addS, s2_addL, s2_addT, s2_sub, s2_mul, s2_mod, s2_fdiv, s2_pow, s2_eq, s2_ne, s2_lt, s2_le, s2_gt, s2_ge, s2_inL, s2_ninL, s2_ixL, s2_ixT, s2_min, s2_max, s1_lenL, s1_lenT, s1_lenW, s1_all, s1_tru, s1_not, List.map_cons, List.map_nil, List.cons_append, List.nil_append, List.append_nil, List.getElem?_cons_zero, List.getElem?_cons_succ, List.length_cons, List.length_nil, Nat.reduceAdd, Nat.reduceSub, List.replicate, List.set_cons_zero, List.set_cons_succ, Option.map_some, Option.bind_some, if_true, if_false, Int.reduceLT, Int.reduceLE, and_self, true_and, and_true, reduceIte, hD, e3, isEq_int, hb]
  obtain ⟨t2, n2, hn2, hv2, f2⟩ := st
  -- the names
  have loop3 := forL_run (tg := [11]) (b := evB S T b_law_table_L0) (fun i env k => k ≤ n2 + i ∧ i ≤ m ∧ ∃ ms x11 x12, Names m ms ∧ env = [some (.scr ns), some .town, some (.int (most : Nat)), some (.int (m : Nat)), some (.int kd), some (.lst (lst2 t2)), x6, none, x8, x9, some (.lst (iD ms)), x11, x12]) (range m) 0 [some (.scr ns), some .town, some (.int (most : Nat)), some (.int (m : Nat)), some (.int kd), some (.lst (lst2 t2)), x6, none, x8, x9, some (.lst (iD (rI m))), none, none] n2
    (fun i x env k hx hI => by
      obtain ⟨hk1, hi, ms, x11, x12, hms, rfl⟩ := hI
      obtain ⟨him, rfl⟩ := range_get hx
      obtain ⟨a0, a1⟩ := draw_range ns k hmp
      have r1 := run_draw S ns (m : Nat) k hmp (by omega)
      generalize draw ns k (m : Nat) = a at *
      refine ⟨_, [some (.scr ns), some .town, some (.int (most : Nat)), some (.int (m : Nat)), some (.int kd), some (.lst (lst2 t2)), x6, none, x8, x9, some (.lst (iD ((ms.set i (ms.getD a.toNat 0)).set a.toNat (ms.getD i 0)))), some (.int (i : Nat)), some (.int a)], k + 1, rfl, ?_, by omega, by omega, _, _, _, names_swap hms him (show a.toNat < m by omega), rfl⟩
      have c1 : (iD ms)[a.toNat]? = some (.int (ms.getD a.toNat 0)) := by
        rw [iD_get (by rw [hms.len]; omega), List.getD_eq_getElem?_getD, List.getElem?_eq_getElem (by rw [hms.len]; omega)]; rfl
      have c2 : (iD ms)[((i : Nat) : Int).toNat]? = some (.int (ms.getD i 0)) := by
        rw [Int.toNat_natCast, iD_get (by rw [hms.len]; omega), List.getD_eq_getElem?_getD, List.getElem?_eq_getElem (by rw [hms.len]; omega)]; rfl
      have i1 := ixN_pos (n := (iD ms).length) (i := (i : Nat)) (by omega) (by rw [iD_length, hms.len]; omega)
      have i2 := ixN_pos (n := (iD ms).length) a0 (by rw [iD_length, hms.len]; exact a1)
      simp only [List.set_cons_succ, List.set_cons_zero, b_law_table_L0, evF_eq, evB, evS, evE, evA, evI, SO.of, SO.then, ofO, Out.bind, Out.lift, s2_add, s2_addS, s2_addL, s2_addT, s2_sub, s2_mul, s2_mod, s2_fdiv, s2_pow, s2_eq, s2_ne, s2_lt, s2_le, s2_gt, s2_ge, s2_inL, s2_ninL, s2_ixL, s2_ixT, s2_min, s2_max, s1_lenL, s1_lenT, s1_lenW, s1_all, s1_tru, s1_not, List.map_cons, List.map_nil, List.cons_append, List.nil_append, List.append_nil, List.getElem?_cons_zero, List.getElem?_cons_succ, List.length_cons, List.length_nil, Nat.reduceAdd, Nat.reduceSub, List.replicate, List.set_cons_zero, List.set_cons_succ, Option.map_some, Option.bind_some, if_true, if_false, Int.reduceLT, Int.reduceLE, and_self, true_and, and_true, reduceIte, hD, r1, getL, putL, c1, c2, i1, i2]
      simp [iD, List.map_set])
    ⟨by omega, Nat.zero_le _, rI m, _, _, names_rI m, rfl⟩
  obtain ⟨env3, n3, f3, hn3, _, ms, x11, x12, hms, rfl⟩ := loop3
  rw [range_length, Nat.zero_add] at hn3
  refine ⟨m, named t2 ms, n3, by omega, by omega, named_vt hv2 hms, by omega, ?_⟩
  have e0 := run_draw S ns (most : Nat) n hmost (by omega)
  have e1 := run_draw S ns 8 (n + 1) (by decide) (by omega)
  rw [hkd] at e1
  simp only [evF_eq, b_law_table, List.map_cons, List.map_nil, List.length_cons, List.length_nil, Nat.reduceAdd, Nat.reduceSub, List.replicate, List.cons_append, List.nil_append]
  rw [evB_nx (env' := [some (.scr ns), some .town, some (.int (most : Nat)), some (.int (m : Nat)), none, none, none, none, none, none, none, none, none]) (n' := n + 1) (by simp only [evF_eq, evB, evS, evE, evA, evI, SO.of, SO.then, ofO, Out.bind, Out.lift, s2_add, s2_addS, s2_addL, s2_addT, s2_sub, s2_mul, s2_mod, s2_fdiv, s2_pow, s2_eq, s2_ne, s2_lt, s2_le, s2_gt, s2_ge, s2_inL, s2_ninL, s2_ixL, s2_ixT, s2_min, s2_max, s1_lenL, s1_lenT, s1_lenW, s1_all, s1_tru, s1_not, List.map_cons, List.map_nil, List.cons_append, List.nil_append, List.append_nil, List.getElem?_cons_zero, List.getElem?_cons_succ, List.length_cons, List.length_nil, Nat.reduceAdd, Nat.reduceSub, List.replicate, List.set_cons_zero, List.set_cons_succ, Option.map_some, Option.bind_some, if_true, if_false, Int.reduceLT, Int.reduceLE, and_self, true_and, and_true, reduceIte, hD, e0, hm]),
    evB_nx (env' := [some (.scr ns), some .town, some (.int (most : Nat)), some (.int (m : Nat)), some (.int kd), none, none, none, none, none, none, none, none]) (n' := n + 1 + 1) (by simp only [evF_eq, evB, evS, evE, evA, evI, SO.of, SO.then, ofO, Out.bind, Out.lift, s2_add, s2_addS, s2_addL, s2_addT, s2_sub, s2_mul, s2_mod, s2_fdiv, s2_pow, s2_eq, s2_ne, s2_lt, s2_le, s2_gt, s2_ge, s2_inL, s2_ninL, s2_ixL, s2_ixT, s2_min, s2_max, s1_lenL, s1_lenT, s1_lenW, s1_all, s1_tru, s1_not, List.map_cons, List.map_nil, List.cons_append, List.nil_append, List.append_nil, List.getElem?_cons_zero, List.getElem?_cons_succ, List.length_cons, List.length_nil, Nat.reduceAdd, Nat.reduceSub, List.replicate, List.set_cons_zero, List.set_cons_succ, Option.map_some, Option.bind_some, if_true, if_false, Int.reduceLT, Int.reduceLE, and_self, true_and, and_true, reduceIte, hD, e1]),
    evB_nx (env' := [some (.scr ns), some .town, some (.int (most : Nat)), some (.int (m : Nat)), some (.int kd), some (.lst []), none, none, none, none, none, none, none]) (n' := n + 1 + 1) rfl,
    evB_nx (env' := [some (.scr ns), some .town, some (.int (most : Nat)), some (.int (m : Nat)), some (.int kd), some (.lst (lst2 t)), x6, none, x8, x9, none, none, none]) (n' := n1) (by
      have er : evI S T (.rg (.v 3)) [some (.scr ns), some .town, some (.int (most : Nat)), some (.int (m : Nat)), some (.int kd), some (.lst []), none, none, none, none, none, none, none] (n + 1 + 1) = .ok (range m) (n + 1 + 1) := ev_rg rfl hl (by omega)
      simp only [evS, er, SO.of]; exact f1),
    evB_nx f2,
    evB_nx (env' := [some (.scr ns), some .town, some (.int (most : Nat)), some (.int (m : Nat)), some (.int kd), some (.lst (lst2 t2)), x6, none, x8, x9, some (.lst (iD (rI m))), none, none]) (n' := n2) (by
      have hc : ((m : Nat) : Int) ≤ line ∧ -(2 ^ 62) ≤ ((m : Nat) : Int) := ⟨hl, by omega⟩
      simp only [evF_eq, evB, evS, evE, evA, evI, SO.of, SO.then, ofO, Out.bind, Out.lift, s2_add, s2_addS, s2_addL, s2_addT, s2_sub, s2_mul, s2_mod, s2_fdiv, s2_pow, s2_eq, s2_ne, s2_lt, s2_le, s2_gt, s2_ge, s2_inL, s2_ninL, s2_ixL, s2_ixT, s2_min, s2_max, s1_lenL, s1_lenT, s1_lenW, s1_all, s1_tru, s1_not, List.map_cons, List.map_nil, List.cons_append, List.nil_append, List.append_nil, List.getElem?_cons_zero, List.getElem?_cons_succ, List.length_cons, List.length_nil, Nat.reduceAdd, Nat.reduceSub, List.replicate, List.set_cons_zero, List.set_cons_succ, Option.map_some, Option.bind_some, if_true, if_false, Int.reduceLT, Int.reduceLE, and_self, true_and, and_true, reduceIte, sem1, if_pos hc, range_iD]),
    evB_nx (env' := [some (.scr ns), some .town, some (.int (most : Nat)), some (.int (m : Nat)), some (.int kd), some (.lst (lst2 t2)), x6, none, x8, x9, some (.lst (iD ms)), x11, x12]) (n' := n3) (by
      have er : evI S T (.rg (.v 3)) [some (.scr ns), some .town, some (.int (most : Nat)), some (.int (m : Nat)), some (.int kd), some (.lst (lst2 t2)), x6, none, x8, x9, some (.lst (iD (rI m))), none, none] n2 = .ok (range m) n2 := ev_rg rfl hl (by omega)
      simp only [evS, er, SO.of]; exact f3)]
  have e4 : evE S T (.lc [7] (.sq (.v 5)) (.c (.bl true)) (.p1 .toT (.v 7))) [some (.scr ns), some .town, some (.int (most : Nat)), some (.int (m : Nat)), some (.int kd), some (.lst (lst2 t2)), x6, none, x8, x9, some (.lst (iD ms)), x11, x12] n3 = .ok (.lst (tup2 t2)) n3 := by
    rw [ev_lc (xs := lst2 t2) (g := fun d => match d with | .lst xs => D.tup xs | d => d) (ev_sqL rfl) fun x hx => ?_, lst2_tup]
    unfold lst2 at hx
    obtain ⟨r, _, rfl⟩ := List.mem_map.mp hx
    rfl
  have e5 := run_named S hv2 hms (by omega) n3 (.lst (tup2 t2)) (.inl rfl)
  simp only [evB, evS, evE.eq_12, evA, e4, hN, Out.bind, SO.of, SO.then, List.length_cons, List.length_nil, Nat.reduceAdd, if_true, e5, evE.eq_3, List.getElem?_cons_succ, List.getElem?_cons_zero]
/-! ### what the program's looks tell of a table -/
theorem bools_true {α : Type} (l : List α) (f : α → D) (h : ∀ x ∈ l, f x = .bl true) : bools (l.map f) = some (l.map fun _ => true) := by
  induction l with
  | nil => rfl
  | cons a r ih =>
    rw [List.map_cons, h a List.mem_cons_self, bools, ih fun x hx => h x (List.mem_cons_of_mem _ hx)]; rfl
theorem all_true {S : Sub} {n : Nat} {xs : List D} (h : ∀ x ∈ xs, x = .bl true) : sem1 S .all_ n (.lst xs) = some (.bl true) := by
  have := bools_true xs id h
  rw [List.map_id] at this
  rw [s1_all, this, Option.map_some]
  congr 2
  simp
theorem run_look (S : Sub) {m : Nat} {t : List (List Int)} (hv : Vt m t) (h1 : 1 ≤ m) (h6 : m ≤ 6) (n : Nat) : r_look_table S [tabD t] n = .ok .non n := by
  unfold r_look_table
  generalize tabOf (c_look_table S) = T
  have hlen : (tup2 t).length = m := by unfold tup2; rw [List.length_map, hv.1]
  have e1 : evE S T (.lc [2] (.sq (.v 0)) (.c (.bl true)) (.p2 .eq (.p1 .len (.v 2)) (.v 1))) [some (tabD t), some (.int (m : Nat)), none, none] n = .ok (.lst ((tup2 t).map fun _ => .bl true)) n := by
    refine ev_lc (ev_sqT rfl) fun x hx => ?_
    unfold tup2 at hx
    obtain ⟨r, hr, rfl⟩ := List.mem_map.mp hx
    simp only [evF_eq, evB, evS, evE, evA, evI, SO.of, SO.then, ofO, Out.bind, Out.lift, s2_add, s2_addS, s2_addL, s2_addT, s2_sub, s2_mul, s2_mod, s2_fdiv, s2_pow, s2_eq, s2_ne, s2_lt, s2_le, s2_gt, s2_ge, s2_inL, s2_ninL, s2_ixL, s2_ixT, s2_min, s2_max, s1_lenL, s1_lenT, s1_lenW, s1_all, s1_tru, s1_not, List.map_cons, List.map_nil, List.cons_append, List.nil_append, List.append_nil, List.getElem?_cons_zero, List.getElem?_cons_succ, List.length_cons, List.length_nil, Nat.reduceAdd, Nat.reduceSub, List.replicate, List.set_cons_zero, List.set_cons_succ, Option.map_some, Option.bind_some, if_true, if_false, Int.reduceLT, Int.reduceLE, and_self, true_and, and_true, reduceIte, iD_length, (hv.2 r hr).1, isEq_int, beq_self_eq_true]
  have e2 : evE S T (.lc [2] (.sq (.v 0)) (.c (.bl true)) (.p1 .all_ (.lc [3] (.sq (.v 2)) (.c (.bl true)) (.chn .le .lt (.c (.int 0)) (.v 3) (.v 1))))) [some (tabD t), some (.int (m : Nat)), none, none] n = .ok (.lst ((tup2 t).map fun _ => .bl true)) n := by
    refine ev_lc (ev_sqT rfl) fun x hx => ?_
    unfold tup2 at hx
    obtain ⟨r, hr, rfl⟩ := List.mem_map.mp hx
    have e3 : evE S T (.lc [3] (.sq (.v 2)) (.c (.bl true)) (.chn .le .lt (.c (.int 0)) (.v 3) (.v 1))) [some (tabD t), some (.int (m : Nat)), some (.tup (iD r)), none] n = .ok (.lst ((iD r).map fun _ => .bl true)) n := by
      refine ev_lc (ev_sqT rfl) fun x hx => ?_
      obtain ⟨k, hk, rfl⟩ := List.mem_map.mp hx
      obtain ⟨k0, k1⟩ := (hv.2 r hr).2 k hk
      simp only [evF_eq, evB, evS, evE, evA, evI, SO.of, SO.then, ofO, Out.bind, Out.lift, s2_add, s2_addS, s2_addL, s2_addT, s2_sub, s2_mul, s2_mod, s2_fdiv, s2_pow, s2_eq, s2_ne, s2_lt, s2_le, s2_gt, s2_ge, s2_inL, s2_ninL, s2_ixL, s2_ixT, s2_min, s2_max, s1_lenL, s1_lenT, s1_lenW, s1_all, s1_tru, s1_not, List.map_cons, List.map_nil, List.cons_append, List.nil_append, List.append_nil, List.getElem?_cons_zero, List.getElem?_cons_succ, List.length_cons, List.length_nil, Nat.reduceAdd, Nat.reduceSub, List.replicate, List.set_cons_zero, List.set_cons_succ, Option.map_some, Option.bind_some, if_true, if_false, Int.reduceLT, Int.reduceLE, and_self, true_and, and_true, reduceIte, decide_eq_true k0, decide_eq_true k1]
    have e4 := all_true (S := S) (n := n) (xs := (iD r).map fun _ => D.bl true) fun x hx => by
      obtain ⟨_, _, rfl⟩ := List.mem_map.mp hx; rfl
    simp only [List.set_cons_succ, List.set_cons_zero, evE.eq_4, e3, Out.bind, Out.lift, e4]
  have e5 := all_true (S := S) (n := n) (xs := (tup2 t).map fun _ => D.bl true) fun x hx => by
      obtain ⟨_, _, rfl⟩ := List.mem_map.mp hx; rfl
  have d1 : decide ((1 : Int) ≤ (m : Nat)) = true := decide_eq_true (by omega)
  have d2 : decide (((m : Nat) : Int) ≤ 6) = true := decide_eq_true (by omega)
  simp only [evF_eq, b_look_table, List.map_cons, List.map_nil, List.length_cons, List.length_nil, Nat.reduceAdd, Nat.reduceSub, List.replicate, List.cons_append, List.nil_append]
  rw [evB_nx (env' := [some (tabD t), some (.int (m : Nat)), none, none]) (n' := n) (by simp only [evF_eq, evB, evS, evE, evA, evI, SO.of, SO.then, ofO, Out.bind, Out.lift, s2_add, s2_addS, s2_addL, s2_addT, s2_sub, s2_mul, s2_mod, s2_fdiv, s2_pow, s2_eq, s2_ne, s2_lt, s2_le, s2_gt, s2_ge, s2_inL, s2_ninL, s2_ixL, s2_ixT, s2_min, s2_max, s1_lenL, s1_lenT, s1_lenW, s1_all, s1_tru, s1_not, List.map_cons, List.map_nil, List.cons_append, List.nil_append, List.append_nil, List.getElem?_cons_zero, List.getElem?_cons_succ, List.length_cons, List.length_nil, Nat.reduceAdd, Nat.reduceSub, List.replicate, List.set_cons_zero, List.set_cons_succ, Option.map_some, Option.bind_some, if_true, if_false, Int.reduceLT, Int.reduceLE, and_self, true_and, and_true, reduceIte, hlen])]
  rw [evB_nx (env' := [some (tabD t), some (.int (m : Nat)), none, none]) (n' := n) (by
    simp only [evS, evE.eq_4, evE.eq_8, evE.eq_2, evE.eq_3, evE.eq_10, e1, List.getElem?_cons_succ, List.getElem?_cons_zero, Out.bind, Out.lift, s2_le, d1, d2, s1_not, Bool.not_true, e5, s1_tru, truth, Option.map_some, SO.of, evB])]
  rw [evB_nx (env' := [some (tabD t), some (.int (m : Nat)), none, none]) (n' := n) (by
    simp only [evS, evE.eq_4, e2, Out.bind, Out.lift, s1_not, Bool.not_true, e5, s1_tru, truth, Option.map_some, SO.of, evB])]
  simp only [evB]
/-! ### rows -/
section
variable {S : Sub} {T : Tab} {env : Ev} {n : Nat} {m : Nat} {t : List (List Int)}
theorem row_eq (hv : Vt m t) {i : Nat} (hi : i < m) : t.getD i [] = (rI m).map fun j => at2 t i j.toNat := by
  obtain ⟨r, _, h2, h3, _⟩ := hv.row hi
  rw [h2]
  apply List.ext_getElem?
  intro j
  unfold rI
  rw [List.map_map, List.getElem?_map]
  by_cases hj : j < m
  · rw [List.getElem?_range hj, List.getElem?_eq_getElem (show j < r.length by omega)]
    show some r[j] = some (at2 t i ((j : Nat) : Int).toNat)
    unfold at2
    rw [h2, Int.toNat_natCast, List.getD_eq_getElem?_getD, List.getElem?_eq_getElem (show j < r.length by omega)]; rfl
  · rw [List.getElem?_eq_none (by omega), List.getElem?_eq_none (by simp; omega)]; rfl
theorem rows_eq (hv : Vt m t) : t = (rI m).map fun i => t.getD i.toNat [] := by
  apply List.ext_getElem?
  intro j
  unfold rI
  rw [List.map_map, List.getElem?_map]
  by_cases hj : j < m
  · rw [List.getElem?_range hj, List.getElem?_eq_getElem (by rw [hv.1]; omega)]
    simp [hv.1, hj]
  · rw [List.getElem?_eq_none (by rw [hv.1]; omega), List.getElem?_eq_none (by simp; omega)]; rfl
theorem ok_row (hv : Vt m t) {x a : ME} {i : Int} (hx : evE S T x env n = .ok (tabD t) n) (ha : evE S T a env n = .ok (.int i) n) (h0 : 0 ≤ i) (h1 : i < m) : evE S T (.p2 .idx x a) env n = .ok (.tup (iD (t.getD i.toNat []))) n :=
  ok_p2 hx ha (by rw [s2_ixT]; exact ix_row hv h0 h1)
theorem ok_cell {r : List Int} (hr : r.length = m) {x a : ME} {i : Int} (hx : evE S T x env n = .ok (.tup (iD r)) n ∨ evE S T x env n = .ok (.lst (iD r)) n) (ha : evE S T a env n = .ok (.int i) n) (h0 : 0 ≤ i) (h1 : i < m) : evE S T (.p2 .idx x a) env n = .ok (.int (r.getD i.toNat 0)) n := by
  rcases hx with hx | hx
  · exact ok_p2 hx ha (by rw [s2_ixT]; exact ix_cell hr h0 h1)
  · exact ok_p2 hx ha (by rw [s2_ixL]; exact ix_cell hr h0 h1)
theorem ok_at (hv : Vt m t) {x a b : ME} {i j : Int} (hx : evE S T x env n = .ok (tabD t) n) (ha : evE S T a env n = .ok (.int i) n) (hb : evE S T b env n = .ok (.int j) n) (h0 : 0 ≤ i) (h1 : i < m) (k0 : 0 ≤ j) (k1 : j < m) : evE S T (.p2 .idx (.p2 .idx x a) b) env n = .ok (.int (at2 t i.toNat j.toNat)) n := by
  obtain ⟨r, _, h2, h3, _⟩ := hv.row (a := i.toNat) (by omega)
  have := ok_cell (S := S) (T := T) (env := env) (n := n) (r := t.getD i.toNat []) (by rw [h2]; exact h3) (.inl (ok_row hv hx ha h0 h1)) hb k0 k1
  exact this
theorem ok_eqI {a b : ME} {i j : Int} (ha : evE S T a env n = .ok (.int i) n) (hb : evE S T b env n = .ok (.int j) n) : evE S T (.p2 .eq a b) env n = .ok (.bl (i == j)) n := ok_p2 ha hb (by rw [s2_eq, isEq_int]; rfl)
theorem ok_eqL {a b : ME} {xs ys : List Int} (ha : evE S T a env n = .ok (.lst (iD xs)) n) (hb : evE S T b env n = .ok (.lst (iD ys)) n) : evE S T (.p2 .eq a b) env n = .ok (.bl (decide (xs = ys))) n := ok_p2 ha hb (by
  have : isEq (.lst (iD xs)) (.lst (iD ys)) = some (decide (xs = ys)) := by
    unfold isEq
    have s1 : shp deep (.lst (iD xs)) = true := by show shpAll 19 (iD xs) = true; exact shpAll_iD _ _
    have s2 : shp deep (.lst (iD ys)) = true := by show shpAll 19 (iD ys) = true; exact shpAll_iD _ _
    rw [s1, s2]
    simp only [Bool.and_self, if_true, eqv, eqvAll_iD]
  rw [s2_eq, this]; rfl)
theorem tup2_len (hv : Vt m t) : (tup2 t).length = m := by unfold tup2; rw [List.length_map, hv.1]
end
theorem z_atV {m : Nat} {t : List (List Int)} {n : Nat} {i j : Int} (hv : Vt m t) (h0 : 0 ≤ i) (h1 : i < m) (k0 : 0 ≤ j) (k1 : j < m) : sem2 .idx n (.tup ((t.getD i.toNat []).map D.int)) (.int j) = some (.int (at2 t i.toNat j.toNat)) := by
  obtain ⟨r, _, h2, h3, _⟩ := hv.row (a := i.toNat) (by omega)
  rw [z_ixTi k0 (by rw [h2]; omega)]; rfl
theorem z_rowV {m : Nat} {t : List (List Int)} {n : Nat} {i : Int} (hv : Vt m t) (h0 : 0 ≤ i) (h1 : i < m) : sem2 .idx n (tabD t) (.int i) = some (.tup ((t.getD i.toNat []).map D.int)) := by
  rw [s2_ixT]; exact ix_row hv h0 h1
theorem z_lenV {S : Sub} {m : Nat} {t : List (List Int)} {n : Nat} (hv : Vt m t) : sem1 S .len n (tabD t) = some (.int (m : Nat)) := by
  show some (D.int (tup2 t).length) = _
  rw [List.length_map, hv.1]
theorem vt_row60 {m : Nat} {t : List (List Int)} {i : Int} (hv : Vt m t) (h0 : 0 ≤ i) (h1 : i < m) (hm : m ≤ 6) : (t.getD i.toNat []).length ≤ 60 := by
  obtain ⟨r, _, e2, e3, _⟩ := hv.row (a := i.toNat) (by omega)
  rw [e2]; omega
theorem at_lo {m : Nat} {t : List (List Int)} {i j : Int} (hv : Vt m t) (h0 : 0 ≤ i) (h1 : i < m) (k0 : 0 ≤ j) (k1 : j < m) : 0 ≤ at2 t i.toNat j.toNat := (hv.at (by omega) (by omega)).1
theorem at_hi {m : Nat} {t : List (List Int)} {i j : Int} (hv : Vt m t) (h0 : 0 ≤ i) (h1 : i < m) (k0 : 0 ≤ j) (k1 : j < m) : at2 t i.toNat j.toNat < m := (hv.at (by omega) (by omega)).2
/-! ### looks at things -/
theorem run_thing (S : Sub) {m : Nat} {t : List (List Int)} (hv : Vt m t) (x : Int) (n : Nat) : r_look_thing S [tabD t, .int x] n = if 0 ≤ x ∧ x < (m : Int) then .ok .non n else .ex "BadThing" n := by
  unfold r_look_thing
  generalize tabOf (c_look_thing S) = T
  by_cases h0 : 0 ≤ x
  · by_cases h1 : x < (m : Int)
    · rw [if_pos ⟨h0, h1⟩]
      simp only [b_look_thing, evF_eq, evB, evS, evE, evA, evI, SO.of, SO.then, ofO, Out.bind, Out.lift, s2_add, s2_addS, s2_addL, s2_addT, s2_sub, s2_mul, s2_mod, s2_fdiv, s2_pow, s2_eq, s2_ne, s2_lt, s2_le, s2_gt, s2_ge, s2_inL, s2_ninL, s2_ixL, s2_ixT, s2_min, s2_max, s1_lenL, s1_lenT, s1_lenW, s1_all, s1_tru, s1_not, List.map_cons, List.map_nil, List.cons_append, List.nil_append, List.append_nil, List.getElem?_cons_zero, List.getElem?_cons_succ, List.length_cons, List.length_nil, Nat.reduceAdd, Nat.reduceSub, List.replicate, List.set_cons_zero, List.set_cons_succ, Option.map_some, Option.bind_some, if_true, if_false, Int.reduceLT, Int.reduceLE, and_self, true_and, and_true, reduceIte, tup2_len hv, decide_eq_true h0, decide_eq_true h1, Bool.not_true]
    · rw [if_neg fun q => h1 q.2]
      simp only [b_look_thing, evF_eq, evB, evS, evE, evA, evI, SO.of, SO.then, ofO, Out.bind, Out.lift, s2_add, s2_addS, s2_addL, s2_addT, s2_sub, s2_mul, s2_mod, s2_fdiv, s2_pow, s2_eq, s2_ne, s2_lt, s2_le, s2_gt, s2_ge, s2_inL, s2_ninL, s2_ixL, s2_ixT, s2_min, s2_max, s1_lenL, s1_lenT, s1_lenW, s1_all, s1_tru, s1_not, List.map_cons, List.map_nil, List.cons_append, List.nil_append, List.append_nil, List.getElem?_cons_zero, List.getElem?_cons_succ, List.length_cons, List.length_nil, Nat.reduceAdd, Nat.reduceSub, List.replicate, List.set_cons_zero, List.set_cons_succ, Option.map_some, Option.bind_some, if_true, if_false, Int.reduceLT, Int.reduceLE, and_self, true_and, and_true, reduceIte, tup2_len hv, decide_eq_true h0, decide_eq_false h1, Bool.not_false]
  · rw [if_neg fun q => h0 q.1]
    simp only [b_look_thing, evF_eq, evB, evS, evE, evA, evI, SO.of, SO.then, ofO, Out.bind, Out.lift, s2_add, s2_addS, s2_addL, s2_addT, s2_sub, s2_mul, s2_mod, s2_fdiv, s2_pow, s2_eq, s2_ne, s2_lt, s2_le, s2_gt, s2_ge, s2_inL, s2_ninL, s2_ixL, s2_ixT, s2_min, s2_max, s1_lenL, s1_lenT, s1_lenW, s1_all, s1_tru, s1_not, List.map_cons, List.map_nil, List.cons_append, List.nil_append, List.append_nil, List.getElem?_cons_zero, List.getElem?_cons_succ, List.length_cons, List.length_nil, Nat.reduceAdd, Nat.reduceSub, List.replicate, List.set_cons_zero, List.set_cons_succ, Option.map_some, Option.bind_some, if_true, if_false, Int.reduceLT, Int.reduceLE, and_self, true_and, and_true, reduceIte, decide_eq_false h0, Bool.not_false]
theorem run_things (S : Sub) {m : Nat} {t : List (List Int)} (hv : Vt m t) (h1 : 1 ≤ m) (h6 : m ≤ 6) (s : D) (xs : List Int) (hs : items s = some (iD xs)) (n : Nat) : r_look_things S [tabD t, s] n = if xs.all (fun k => decide (0 ≤ k ∧ k < (m : Int))) = true then .ok .non n else .ex "BadThing" n := by
  unfold r_look_things
  have hT : tabOf (c_look_things S) "look_table" = some (1, r_look_table S) := rfl
  have hU : tabOf (c_look_things S) "look_thing" = some (2, r_look_thing S) := rfl
  generalize tabOf (c_look_things S) = T at hT hU ⊢
  have loop : ∀ (ys : List Int) (x2 : Option D), ∃ x2', forL [2] (evB S T b_look_things_L0) (iD ys) [some (tabD t), some s, x2] n = if ys.all (fun k => decide (0 ≤ k ∧ k < (m : Int))) = true then .nx [some (tabD t), some s, x2'] n else .ex "BadThing" n [some (tabD t), some s, x2'] := fun ys => by
    induction ys with
    | nil => exact fun x2 => ⟨x2, rfl⟩
    | cons k r ih =>
      intro x2
      have e0 : forL [2] (evB S T b_look_things_L0) (iD (k :: r)) [some (tabD t), some s, x2] n = (evB S T b_look_things_L0 [some (tabD t), some s, some (.int k)] n).then fun env2 n2 => forL [2] (evB S T b_look_things_L0) (iD r) env2 n2 := rfl
      rw [e0]
      have e1 := run_thing S hv k n
      by_cases h : 0 ≤ k ∧ k < (m : Int)
      · rw [if_pos h] at e1
        obtain ⟨x2', e2⟩ := ih (some (.int k))
        refine ⟨x2', ?_⟩
        unfold b_look_things_L0 at e2 ⊢
        rw [evB_nx (ok_ex (ok_call2 hU (ok_v rfl) (ok_v rfl) e1))]
        simp only [evB.eq_1, SO.then, e2, List.all_cons, decide_eq_true h, Bool.true_and]
      · rw [if_neg h] at e1
        refine ⟨some (.int k), ?_⟩
        have e3 : evB S T b_look_things_L0 [some (tabD t), some s, some (.int k)] n = .ex "BadThing" n [some (tabD t), some s, some (.int k)] := by
          simp only [b_look_things_L0, evB, evS, evE, evA, hU, Out.bind, List.getElem?_cons_zero, List.getElem?_cons_succ, List.length_cons, List.length_nil, Nat.reduceAdd, if_true, e1, SO.of, SO.then]
        rw [e3]
        simp only [SO.then, List.all_cons, decide_eq_false h, Bool.false_and, Bool.false_eq_true, if_false]
  simp only [evF_eq, b_look_things, List.map_cons, List.map_nil, List.length_cons, List.length_nil, Nat.reduceAdd, Nat.reduceSub, List.replicate, List.cons_append, List.nil_append]
  rw [evB_nx (ok_ex (ok_call1 hT (ok_v rfl) (run_look S hv h1 h6 n)))]
  obtain ⟨x2', e4⟩ := loop xs none
  have e5 : evS S T (.for_ [2] (.sq (.v 1)) b_look_things_L0) [some (tabD t), some s, none] n = forL [2] (evB S T b_look_things_L0) (iD xs) [some (tabD t), some s, none] n := ok_for (by simp only [evI, evE, List.getElem?_cons_succ, List.getElem?_cons_zero, Out.bind, hs, Out.lift])
  simp only [evB.eq_2, e5, e4]
  cases xs.all fun k => decide (0 ≤ k ∧ k < (m : Int)) <;> rfl
end Ko

namespace Ko
open PySem (Str)
open Mv
abbrev S0 : Sub := subS ec
abbrev T0 : Tab := Mv.tabOf (c_law S0)
abbrev Fu := List D → Nat → Out D
def K (o : Out D) : Fu := fun _ _ => o
def rf (x : Str) : D := .tup [.str "refused", .str x]
def pj (i : Nat) : SO → Option D | .nx env _ => (env[i]?).getD none | _ => none
def smallT : D := .tup [.tup [.int 0, .int 0], .tup [.int 0, .int 1]]
def deepT : D := .tup [.tup [.tup [.tup [.str "x", .str "x"], .str "x"], .str "x"], .str "x"]
theorem go_lc3 {S : Sub} {T : Tab} {i : Nat} {a0 : MI} {e : ME} {env : Ev} {n n0 n1 n2 n3 : Nat} {x1 x2 x3 r1 r2 r3 : D} (ha : evI S T a0 env n = .ok [x1, x2, x3] n0) (h1 : evE S T e (env.set i (some x1)) n0 = .ok r1 n1) (h2 : evE S T e (env.set i (some x2)) n1 = .ok r2 n2) (h3 : evE S T e (env.set i (some x3)) n2 = .ok r3 n3) :
    evE S T (.lc [i] a0 (.c (.bl true)) e) env n = .ok (.lst [r1, r2, r3]) n3 := by
  simp only [evE, ha, Out.bind, gather, turnL, bindT, wipeD, set_none_set, h1, h2, h3, if_true]
theorem forL_cons {i : Nat} {b : Ev → Nat → SO} {x : D} {r : List D} {env env2 : Ev} {n n2 : Nat} {o : SO} (h : b (env.set i (some x)) n = .nx env2 n2) (h2 : forL [i] b r env2 n2 = o) : forL [i] b (x :: r) env n = o := by
  simp only [forL, bindT, ofO, h, SO.then, h2]
/-! ### what one answer rests on -/
def c1 (q0 q1 q2 q3 q4 q5 q6 : Fu) : List En := [⟨"row_for", 3, q0⟩, ⟨"made_rows", 2, q1⟩, ⟨"least_term", 3, q2⟩, ⟨"is_rich", 2, q3⟩, ⟨"held_many", 2, q4⟩, ⟨"first_parting", 3, q5⟩, ⟨"holds_more", 3, q6⟩]
def told (q0 q1 q2 q3 q4 q5 q6 : Fu) : Fu := evF S0 (Mv.tabOf [⟨"_law_refusal", 1, r_law_refusal S0⟩, ⟨"_law_one", 2, evF S0 (Mv.tabOf (c1 q0 q1 q2 q3 q4 q5 q6)) 6 b_law_one⟩]) 5 b_law_told
theorem told_eq : r_law_told S0 = told (r_row_for S0) (r_made_rows S0) (r_least_term S0) (r_is_rich S0) (r_held_many S0) (r_first_parting S0) (r_holds_more S0) := rfl
section
variable (q0 q1 q2 q3 q4 q5 q6 : Fu) (t t2 f w : D) (n : Nat)
theorem one_k0 (c : Str) (h : q0 [t, f, w] n = .ex c n) : evF S0 (Mv.tabOf (c1 q0 q1 q2 q3 q4 q5 q6)) 6 b_law_one [.int 0, .lst [t, t2, f, w]] n = .ex c n := by
  have hT : (Mv.tabOf (c1 q0 q1 q2 q3 q4 q5 q6)) "row_for" = some (3, q0) := rfl
  refine gf_ex (env' := [some (.int 0), some (.lst [t, t2, f, w]), some t, some t2, some f, some w]) (gb_nx (n1 := n) (env' := [some (.int 0), some (.lst [t, t2, f, w]), some t, some t2, some f, some w]) (by kernel_rfl) (gb_ex (gs_ifT (n1 := n) (by kernel_rfl) (gb_ex (gs_ifT (n1 := n) (by kernel_rfl) (gb_ex ?_))))))
  have h2 : evE S0 (Mv.tabOf (c1 q0 q1 q2 q3 q4 q5 q6)) (.call "row_for" (.cons (.v 2) (.cons (.v 4) (.cons (.v 5) .nil)))) [some (.int 0), some (.lst [t, t2, f, w]), some t, some t2, some f, some w] n = .ex c n := go_callX hT (go_cons (go_v rfl) (go_cons (go_v rfl) (go_cons (go_v rfl) (go_nil)))) rfl h
  have h1 : evE S0 (Mv.tabOf (c1 q0 q1 q2 q3 q4 q5 q6)) (.p2 .eq (.v 0) (.c (.int 0))) [some (.int 0), some (.lst [t, t2, f, w]), some t, some t2, some f, some w] n = .ok (.bl true) n := by kernel_rfl
  simp only [evS, evD, h1, h2, SO.of, Out.bind, if_true]
theorem one_k1 (hn1 : nolAll [t, f] = true) (c : Str) (h : q1 [t, f] n = .ex c n) : evF S0 (Mv.tabOf (c1 q0 q1 q2 q3 q4 q5 q6)) 6 b_law_one [.int 1, .lst [t, t2, f, w]] n = .ex c n := by
  have hT : (Mv.tabOf (c1 q0 q1 q2 q3 q4 q5 q6)) "made_rows" = some (2, q1) := rfl
  refine gf_ex (env' := [some (.int 1), some (.lst [t, t2, f, w]), some t, some t2, some f, some w]) (gb_nx (n1 := n) (env' := [some (.int 1), some (.lst [t, t2, f, w]), some t, some t2, some f, some w]) (by kernel_rfl) (gb_ex (gs_ifT (n1 := n) (by kernel_rfl) (gb_ex (gs_ifT (n1 := n) (by kernel_rfl) (gb_ex ?_))))))
  have h2 : evA S0 (Mv.tabOf (c1 q0 q1 q2 q3 q4 q5 q6)) (.cons (.v 2) (.cons (.v 4) .nil)) [some (.int 1), some (.lst [t, t2, f, w]), some t, some t2, some f, some w] n = .ok [t, f] n := go_cons (go_v rfl) (go_cons (go_v rfl) go_nil)
  have h0 : [t, f].length = 2 ∧ nolAll [t, f] = true := ⟨rfl, hn1⟩
  have h1 : evE S0 (Mv.tabOf (c1 q0 q1 q2 q3 q4 q5 q6)) (.p2 .eq (.v 0) (.c (.int 0))) [some (.int 1), some (.lst [t, t2, f, w]), some t, some t2, some f, some w] n = .ok (.bl false) n := by kernel_rfl
  simp only [evS, evD, h1, hT, h2, h0, h, and_self, SO.of, Out.bind, if_true]
theorem one_k2 (c : Str) (h : q2 [t, f, w] n = .ex c n) : evF S0 (Mv.tabOf (c1 q0 q1 q2 q3 q4 q5 q6)) 6 b_law_one [.int 2, .lst [t, t2, f, w]] n = .ex c n := by
  have hT : (Mv.tabOf (c1 q0 q1 q2 q3 q4 q5 q6)) "least_term" = some (3, q2) := rfl
  refine gf_ex (env' := [some (.int 2), some (.lst [t, t2, f, w]), some t, some t2, some f, some w]) (gb_nx (n1 := n) (env' := [some (.int 2), some (.lst [t, t2, f, w]), some t, some t2, some f, some w]) (by kernel_rfl) (gb_ex (gs_ifT (n1 := n) (by kernel_rfl) (gb_nx (gs_ifF (n1 := n) (by kernel_rfl) gb_nil) (gb_ex ?_)))))
  have h2 : evE S0 (Mv.tabOf (c1 q0 q1 q2 q3 q4 q5 q6)) (.call "least_term" (.cons (.v 2) (.cons (.v 4) (.cons (.v 5) .nil)))) [some (.int 2), some (.lst [t, t2, f, w]), some t, some t2, some f, some w] n = .ex c n := go_callX hT (go_cons (go_v rfl) (go_cons (go_v rfl) (go_cons (go_v rfl) (go_nil)))) rfl h
  have h1 : evE S0 (Mv.tabOf (c1 q0 q1 q2 q3 q4 q5 q6)) (.p2 .eq (.v 0) (.c (.int 2))) [some (.int 2), some (.lst [t, t2, f, w]), some t, some t2, some f, some w] n = .ok (.bl true) n := by kernel_rfl
  simp only [evS, evD, h1, h2, SO.of, Out.bind, if_true]
theorem one_k3 (c : Str) (h : q3 [t, f] n = .ex c n) : evF S0 (Mv.tabOf (c1 q0 q1 q2 q3 q4 q5 q6)) 6 b_law_one [.int 3, .lst [t, t2, f, w]] n = .ex c n := by
  have hT : (Mv.tabOf (c1 q0 q1 q2 q3 q4 q5 q6)) "is_rich" = some (2, q3) := rfl
  refine gf_ex (env' := [some (.int 3), some (.lst [t, t2, f, w]), some t, some t2, some f, some w]) (gb_nx (n1 := n) (env' := [some (.int 3), some (.lst [t, t2, f, w]), some t, some t2, some f, some w]) (by kernel_rfl) (gb_ex (gs_ifT (n1 := n) (by kernel_rfl) (gb_nx (gs_ifF (n1 := n) (by kernel_rfl) gb_nil) (gb_ex ?_)))))
  have h2 : evE S0 (Mv.tabOf (c1 q0 q1 q2 q3 q4 q5 q6)) (.call "is_rich" (.cons (.v 2) (.cons (.v 4) .nil))) [some (.int 3), some (.lst [t, t2, f, w]), some t, some t2, some f, some w] n = .ex c n := go_callX hT (go_cons (go_v rfl) (go_cons (go_v rfl) (go_nil))) rfl h
  have h1 : evE S0 (Mv.tabOf (c1 q0 q1 q2 q3 q4 q5 q6)) (.p2 .eq (.v 0) (.c (.int 2))) [some (.int 3), some (.lst [t, t2, f, w]), some t, some t2, some f, some w] n = .ok (.bl false) n := by kernel_rfl
  simp only [evS, evD, h1, h2, SO.of, Out.bind, if_true]
theorem one_k4 (c : Str) (h : q4 [t, f] n = .ex c n) : evF S0 (Mv.tabOf (c1 q0 q1 q2 q3 q4 q5 q6)) 6 b_law_one [.int 4, .lst [t, t2, f, w]] n = .ex c n := by
  have hT : (Mv.tabOf (c1 q0 q1 q2 q3 q4 q5 q6)) "held_many" = some (2, q4) := rfl
  refine gf_ex (env' := [some (.int 4), some (.lst [t, t2, f, w]), some t, some t2, some f, some w]) (gb_nx (n1 := n) (env' := [some (.int 4), some (.lst [t, t2, f, w]), some t, some t2, some f, some w]) (by kernel_rfl) (gb_nx (gs_ifF (n1 := n) (by kernel_rfl) gb_nil) (gb_ex (gs_ifT (n1 := n) (by kernel_rfl) (gb_ex ?_)))))
  have h2 : evE S0 (Mv.tabOf (c1 q0 q1 q2 q3 q4 q5 q6)) (.call "held_many" (.cons (.v 2) (.cons (.v 4) .nil))) [some (.int 4), some (.lst [t, t2, f, w]), some t, some t2, some f, some w] n = .ex c n := go_callX hT (go_cons (go_v rfl) (go_cons (go_v rfl) (go_nil))) rfl h
  simp only [evS, evD, h2, SO.of, Out.bind, if_true]
theorem one_k5 (c : Str) (h : q5 [t, t2, f] n = .ex c n) : evF S0 (Mv.tabOf (c1 q0 q1 q2 q3 q4 q5 q6)) 6 b_law_one [.int 5, .lst [t, t2, f, w]] n = .ex c n := by
  have hT : (Mv.tabOf (c1 q0 q1 q2 q3 q4 q5 q6)) "first_parting" = some (3, q5) := rfl
  refine gf_ex (env' := [some (.int 5), some (.lst [t, t2, f, w]), some t, some t2, some f, some w]) (gb_nx (n1 := n) (env' := [some (.int 5), some (.lst [t, t2, f, w]), some t, some t2, some f, some w]) (by kernel_rfl) (gb_nx (gs_ifF (n1 := n) (by kernel_rfl) gb_nil) (gb_nx (gs_ifF (n1 := n) (by kernel_rfl) gb_nil) (gb_ex ?_))))
  have h2 : evE S0 (Mv.tabOf (c1 q0 q1 q2 q3 q4 q5 q6)) (.call "first_parting" (.cons (.v 2) (.cons (.v 3) (.cons (.v 4) .nil)))) [some (.int 5), some (.lst [t, t2, f, w]), some t, some t2, some f, some w] n = .ex c n := go_callX hT (go_cons (go_v rfl) (go_cons (go_v rfl) (go_cons (go_v rfl) (go_nil)))) rfl h
  have h1 : evE S0 (Mv.tabOf (c1 q0 q1 q2 q3 q4 q5 q6)) (.p2 .eq (.v 0) (.c (.int 5))) [some (.int 5), some (.lst [t, t2, f, w]), some t, some t2, some f, some w] n = .ok (.bl true) n := by kernel_rfl
  simp only [evS, evD, h1, h2, SO.of, Out.bind, if_true]
theorem one_k6 (c : Str) (h : q6 [t, t2, f] n = .ex c n) : evF S0 (Mv.tabOf (c1 q0 q1 q2 q3 q4 q5 q6)) 6 b_law_one [.int 6, .lst [t, t2, f, w]] n = .ex c n := by
  have hT : (Mv.tabOf (c1 q0 q1 q2 q3 q4 q5 q6)) "holds_more" = some (3, q6) := rfl
  refine gf_ex (env' := [some (.int 6), some (.lst [t, t2, f, w]), some t, some t2, some f, some w]) (gb_nx (n1 := n) (env' := [some (.int 6), some (.lst [t, t2, f, w]), some t, some t2, some f, some w]) (by kernel_rfl) (gb_nx (gs_ifF (n1 := n) (by kernel_rfl) gb_nil) (gb_nx (gs_ifF (n1 := n) (by kernel_rfl) gb_nil) (gb_ex ?_))))
  have h2 : evE S0 (Mv.tabOf (c1 q0 q1 q2 q3 q4 q5 q6)) (.call "holds_more" (.cons (.v 2) (.cons (.v 3) (.cons (.v 4) .nil)))) [some (.int 6), some (.lst [t, t2, f, w]), some t, some t2, some f, some w] n = .ex c n := go_callX hT (go_cons (go_v rfl) (go_cons (go_v rfl) (go_cons (go_v rfl) (go_nil)))) rfl h
  have h1 : evE S0 (Mv.tabOf (c1 q0 q1 q2 q3 q4 q5 q6)) (.p2 .eq (.v 0) (.c (.int 5))) [some (.int 6), some (.lst [t, t2, f, w]), some t, some t2, some f, some w] n = .ok (.bl false) n := by kernel_rfl
  simp only [evS, evD, h1, h2, SO.of, Out.bind, if_true]
theorem told_ex {one : Fu} {d g : D} {x y : Str} {n : Nat} (h : one [d, g] n = .ex x n) (hx : S0 x "RuleError" = true) (hr : r_law_refusal S0 [.exc x] n = .ok (rf y) n) : evF S0 (Mv.tabOf [⟨"_law_refusal", 1, r_law_refusal S0⟩, ⟨"_law_one", 2, one⟩]) 5 b_law_told [d, g] n = .ok (rf y) n := by
  have h2 : evE S0 (Mv.tabOf [⟨"_law_refusal", 1, r_law_refusal S0⟩, ⟨"_law_one", 2, one⟩]) (.call "_law_one" (.cons (.v 0) (.cons (.v 1) .nil))) [some d, some g, some .non, some .non, none] n = .ex x n := go_callX (k := 2) (run := one) rfl (go_cons (go_v rfl) (go_cons (go_v rfl) go_nil)) rfl h
  have h3 : evE S0 (Mv.tabOf [⟨"_law_refusal", 1, r_law_refusal S0⟩, ⟨"_law_one", 2, one⟩]) (.call "_law_refusal" (.cons (.v 2) .nil)) [some d, some g, some (.exc x), none, none] n = .ok (rf y) n := go_call (k := 1) (run := r_law_refusal S0) rfl (go_cons (go_v rfl) go_nil) rfl hr
  have h4 : nol (rf y) = true := rfl
  refine gf_rt (gb_nx (gs_set go_c rfl) (gb_nx (gs_set go_c rfl) ?_))
  show evB S0 _ _ [some d, some g, some .non, some .non, none] n = _
  simp only [evB, evD, List.getElem?_cons_zero, List.getElem?_cons_succ, List.length_cons, List.length_nil, Nat.reduceAdd, Nat.reduceLeDiff, if_false, h2, hx, if_true, List.set_cons_zero, List.set_cons_succ, h3, h4]
theorem told_ok {one : Fu} {d g v : D} {n : Nat} (h : one [d, g] n = .ok v n) : evF S0 (Mv.tabOf [⟨"_law_refusal", 1, r_law_refusal S0⟩, ⟨"_law_one", 2, one⟩]) 5 b_law_told [d, g] n = .ok (.tup [.str "found", v]) n := by
  have h2 : evE S0 (Mv.tabOf [⟨"_law_refusal", 1, r_law_refusal S0⟩, ⟨"_law_one", 2, one⟩]) (.call "_law_one" (.cons (.v 0) (.cons (.v 1) .nil))) [some d, some g, some .non, some .non, none] n = .ok v n := go_call (k := 2) (run := one) rfl (go_cons (go_v rfl) (go_cons (go_v rfl) go_nil)) rfl h
  refine gf_rt (gb_nx (gs_set go_c rfl) (gb_nx (gs_set go_c rfl) ?_))
  show evB S0 _ _ [some d, some g, some .non, some .non, none] n = _
  simp only [evB, evD, List.getElem?_cons_zero, List.getElem?_cons_succ, List.length_cons, List.length_nil, Nat.reduceAdd, Nat.reduceLeDiff, if_false, h2]
theorem told_BadTable0 (h : q0 [t, f, w] n = .ex "BadTable" n) : told q0 q1 q2 q3 q4 q5 q6 [.int 0, .lst [t, t2, f, w]] n = .ok (rf "table") n := told_ex (one_k0 q0 q1 q2 q3 q4 q5 q6 t t2 f w n _ h) (by kernel_rfl) (by kernel_rfl)
theorem told_BadNumber0 (h : q0 [t, f, w] n = .ex "BadNumber" n) : told q0 q1 q2 q3 q4 q5 q6 [.int 0, .lst [t, t2, f, w]] n = .ok (rf "number") n := told_ex (one_k0 q0 q1 q2 q3 q4 q5 q6 t t2 f w n _ h) (by kernel_rfl) (by kernel_rfl)
theorem told_BadSaying0 (h : q0 [t, f, w] n = .ex "BadSaying" n) : told q0 q1 q2 q3 q4 q5 q6 [.int 0, .lst [t, t2, f, w]] n = .ok (rf "saying") n := told_ex (one_k0 q0 q1 q2 q3 q4 q5 q6 t t2 f w n _ h) (by kernel_rfl) (by kernel_rfl)
theorem told_BadTable1 (hn1 : nolAll [t, f] = true) (h : q1 [t, f] n = .ex "BadTable" n) : told q0 q1 q2 q3 q4 q5 q6 [.int 1, .lst [t, t2, f, w]] n = .ok (rf "table") n := told_ex (one_k1 q0 q1 q2 q3 q4 q5 q6 t t2 f w n hn1 _ h) (by kernel_rfl) (by kernel_rfl)
theorem told_BadNumber1 (hn1 : nolAll [t, f] = true) (h : q1 [t, f] n = .ex "BadNumber" n) : told q0 q1 q2 q3 q4 q5 q6 [.int 1, .lst [t, t2, f, w]] n = .ok (rf "number") n := told_ex (one_k1 q0 q1 q2 q3 q4 q5 q6 t t2 f w n hn1 _ h) (by kernel_rfl) (by kernel_rfl)
theorem told_BadSaying1 (hn1 : nolAll [t, f] = true) (h : q1 [t, f] n = .ex "BadSaying" n) : told q0 q1 q2 q3 q4 q5 q6 [.int 1, .lst [t, t2, f, w]] n = .ok (rf "saying") n := told_ex (one_k1 q0 q1 q2 q3 q4 q5 q6 t t2 f w n hn1 _ h) (by kernel_rfl) (by kernel_rfl)
theorem told_BadTable2 (h : q2 [t, f, w] n = .ex "BadTable" n) : told q0 q1 q2 q3 q4 q5 q6 [.int 2, .lst [t, t2, f, w]] n = .ok (rf "table") n := told_ex (one_k2 q0 q1 q2 q3 q4 q5 q6 t t2 f w n _ h) (by kernel_rfl) (by kernel_rfl)
theorem told_BadNumber2 (h : q2 [t, f, w] n = .ex "BadNumber" n) : told q0 q1 q2 q3 q4 q5 q6 [.int 2, .lst [t, t2, f, w]] n = .ok (rf "number") n := told_ex (one_k2 q0 q1 q2 q3 q4 q5 q6 t t2 f w n _ h) (by kernel_rfl) (by kernel_rfl)
theorem told_BadSaying2 (h : q2 [t, f, w] n = .ex "BadSaying" n) : told q0 q1 q2 q3 q4 q5 q6 [.int 2, .lst [t, t2, f, w]] n = .ok (rf "saying") n := told_ex (one_k2 q0 q1 q2 q3 q4 q5 q6 t t2 f w n _ h) (by kernel_rfl) (by kernel_rfl)
theorem told_BadTable3 (h : q3 [t, f] n = .ex "BadTable" n) : told q0 q1 q2 q3 q4 q5 q6 [.int 3, .lst [t, t2, f, w]] n = .ok (rf "table") n := told_ex (one_k3 q0 q1 q2 q3 q4 q5 q6 t t2 f w n _ h) (by kernel_rfl) (by kernel_rfl)
theorem told_BadNumber3 (h : q3 [t, f] n = .ex "BadNumber" n) : told q0 q1 q2 q3 q4 q5 q6 [.int 3, .lst [t, t2, f, w]] n = .ok (rf "number") n := told_ex (one_k3 q0 q1 q2 q3 q4 q5 q6 t t2 f w n _ h) (by kernel_rfl) (by kernel_rfl)
theorem told_BadSaying3 (h : q3 [t, f] n = .ex "BadSaying" n) : told q0 q1 q2 q3 q4 q5 q6 [.int 3, .lst [t, t2, f, w]] n = .ok (rf "saying") n := told_ex (one_k3 q0 q1 q2 q3 q4 q5 q6 t t2 f w n _ h) (by kernel_rfl) (by kernel_rfl)
theorem told_BadTable4 (h : q4 [t, f] n = .ex "BadTable" n) : told q0 q1 q2 q3 q4 q5 q6 [.int 4, .lst [t, t2, f, w]] n = .ok (rf "table") n := told_ex (one_k4 q0 q1 q2 q3 q4 q5 q6 t t2 f w n _ h) (by kernel_rfl) (by kernel_rfl)
theorem told_BadNumber4 (h : q4 [t, f] n = .ex "BadNumber" n) : told q0 q1 q2 q3 q4 q5 q6 [.int 4, .lst [t, t2, f, w]] n = .ok (rf "number") n := told_ex (one_k4 q0 q1 q2 q3 q4 q5 q6 t t2 f w n _ h) (by kernel_rfl) (by kernel_rfl)
theorem told_BadSaying4 (h : q4 [t, f] n = .ex "BadSaying" n) : told q0 q1 q2 q3 q4 q5 q6 [.int 4, .lst [t, t2, f, w]] n = .ok (rf "saying") n := told_ex (one_k4 q0 q1 q2 q3 q4 q5 q6 t t2 f w n _ h) (by kernel_rfl) (by kernel_rfl)
theorem told_BadTable5 (h : q5 [t, t2, f] n = .ex "BadTable" n) : told q0 q1 q2 q3 q4 q5 q6 [.int 5, .lst [t, t2, f, w]] n = .ok (rf "table") n := told_ex (one_k5 q0 q1 q2 q3 q4 q5 q6 t t2 f w n _ h) (by kernel_rfl) (by kernel_rfl)
theorem told_BadNumber5 (h : q5 [t, t2, f] n = .ex "BadNumber" n) : told q0 q1 q2 q3 q4 q5 q6 [.int 5, .lst [t, t2, f, w]] n = .ok (rf "number") n := told_ex (one_k5 q0 q1 q2 q3 q4 q5 q6 t t2 f w n _ h) (by kernel_rfl) (by kernel_rfl)
theorem told_BadSaying5 (h : q5 [t, t2, f] n = .ex "BadSaying" n) : told q0 q1 q2 q3 q4 q5 q6 [.int 5, .lst [t, t2, f, w]] n = .ok (rf "saying") n := told_ex (one_k5 q0 q1 q2 q3 q4 q5 q6 t t2 f w n _ h) (by kernel_rfl) (by kernel_rfl)
theorem told_BadTable6 (h : q6 [t, t2, f] n = .ex "BadTable" n) : told q0 q1 q2 q3 q4 q5 q6 [.int 6, .lst [t, t2, f, w]] n = .ok (rf "table") n := told_ex (one_k6 q0 q1 q2 q3 q4 q5 q6 t t2 f w n _ h) (by kernel_rfl) (by kernel_rfl)
theorem told_BadNumber6 (h : q6 [t, t2, f] n = .ex "BadNumber" n) : told q0 q1 q2 q3 q4 q5 q6 [.int 6, .lst [t, t2, f, w]] n = .ok (rf "number") n := told_ex (one_k6 q0 q1 q2 q3 q4 q5 q6 t t2 f w n _ h) (by kernel_rfl) (by kernel_rfl)
theorem told_BadSaying6 (h : q6 [t, t2, f] n = .ex "BadSaying" n) : told q0 q1 q2 q3 q4 q5 q6 [.int 6, .lst [t, t2, f, w]] n = .ok (rf "saying") n := told_ex (one_k6 q0 q1 q2 q3 q4 q5 q6 t t2 f w n _ h) (by kernel_rfl) (by kernel_rfl)
end
/-! ### the looks -/
theorem ex1 {S : Sub} {T : Tab} {size k : Nat} {f x : Str} {as : MEs} {B : MB} {run : Fu} {ds ds1 : List D} {n : Nat} (hT : T f = some (k, run)) (h : evA S T as (ds.map some ++ List.replicate (size - ds.length) none) n = .ok ds1 n) (hk : ds1.length = k) (hr : run ds1 n = .ex x n) :
    evF S T size (.cons (.ex (.call f as)) B) ds n = .ex x n := gf_ex (gb_ex (gs_exX (go_callX hT h hk hr)))
def fars : List D := [.int 0, .int 4, .int (-1), .int 99]
def fars2 : List D := [.int 3, .int (-1), .int 99]
def bads : List D := [.tup [], .tup [.tup [.int 0, .int 1], .tup [.int 0]], .tup [.tup [.int 1]], .tup [.tup [.int 0, .int 0], .tup [.int 0, .int 2]], .tup [.tup [.int (-1)]], .tup (List.replicate 7 (.tup (List.replicate 7 (.int 0))))]
section
variable {m : Nat} {t : List (List Int)} (hv : Vt m t) (h1 : 1 ≤ m) (h6 : m ≤ 6) (n : Nat)
include hv h1 h6
theorem x_letters {f : D} (hf : f ∈ fars) : r_look_letters S0 [tabD t, f] n = .ex "BadNumber" n := by
  have h := run_look S0 hv h1 h6 n
  generalize tabD t = T at h ⊢
  have hT : Mv.tabOf (c_look_letters S0) "look_table" = some (1, r_look_table S0) := rfl
  refine gf_ex (env' := [some T, some f]) (gb_nx (gs_ex (go_call hT (go_cons (go_v rfl) go_nil) rfl h)) ?_)
  simp only [fars, List.mem_cons, List.not_mem_nil, or_false] at hf
  rcases hf with rfl | rfl | rfl | rfl
  · kernel_rfl
  · kernel_rfl
  · kernel_rfl
  · kernel_rfl
theorem x_small {f : D} (hf : f ∈ fars) : r_look_small S0 [tabD t, f] n = .ex "BadNumber" n :=
  ex1 (k := 2) (run := r_look_letters S0) rfl (go_cons (go_v rfl) (go_cons (go_v rfl) go_nil)) rfl (x_letters hv h1 h6 n hf)
theorem x_row {f : D} (w : D) (hf : f ∈ fars) : r_row_for S0 [tabD t, f, w] n = .ex "BadNumber" n :=
  ex1 (k := 2) (run := r_look_letters S0) rfl (go_cons (go_v rfl) (go_cons (go_v rfl) go_nil)) rfl (x_letters hv h1 h6 n hf)
theorem x_made {f : D} (hf : f ∈ fars) : r_made_rows S0 [tabD t, f] n = .ex "BadNumber" n :=
  ex1 (k := 2) (run := r_look_small S0) rfl (go_cons (go_v rfl) (go_cons (go_v rfl) go_nil)) rfl (x_small hv h1 h6 n hf)
theorem x_least {f : D} (w : D) (hf : f ∈ fars) : r_least_term S0 [tabD t, f, w] n = .ex "BadNumber" n :=
  ex1 (k := 2) (run := r_look_small S0) rfl (go_cons (go_v rfl) (go_cons (go_v rfl) go_nil)) rfl (x_small hv h1 h6 n hf)
theorem x_rich {f : D} (hf : f ∈ fars) : r_is_rich S0 [tabD t, f] n = .ex "BadNumber" n :=
  ex1 (k := 2) (run := r_look_small S0) rfl (go_cons (go_v rfl) (go_cons (go_v rfl) go_nil)) rfl (x_small hv h1 h6 n hf)
omit hv h1 h6 in
theorem x_deep {f : D} (hf : f ∈ fars2) : r_look_deep S0 [f] n = .ex "BadNumber" n := by
  simp only [fars2, List.mem_cons, List.not_mem_nil, or_false] at hf
  rcases hf with rfl | rfl | rfl
  · kernel_rfl
  · kernel_rfl
  · kernel_rfl
omit hv h1 h6 in
theorem x_bad {b : D} (hb : b ∈ bads) : r_look_table S0 [b] n = .ex "BadTable" n := by
  simp only [bads, List.mem_cons, List.not_mem_nil, or_false] at hb
  rcases hb with rfl | rfl | rfl | rfl | rfl | rfl
  · kernel_rfl
  · kernel_rfl
  · kernel_rfl
  · kernel_rfl
  · kernel_rfl
  · kernel_rfl
theorem x_held {f : D} (hf : f ∈ fars2) : r_held_many S0 [tabD t, f] n = .ex "BadNumber" n :=
  gf_ex (gb_nx (gs_ex (go_call (k := 1) (run := r_look_table S0) rfl (go_cons (go_v rfl) go_nil) rfl (run_look S0 hv h1 h6 n))) (gb_ex (gs_exX (go_callX (k := 1) (run := r_look_deep S0) rfl (go_cons (go_v rfl) go_nil) rfl (x_deep n hf)))))
theorem x_first {f : D} (hf : f ∈ fars2) : r_first_parting S0 [tabD t, tabD t, f] n = .ex "BadNumber" n :=
  gf_ex (gb_nx (gs_ex (go_call (k := 1) (run := r_look_table S0) rfl (go_cons (go_v rfl) go_nil) rfl (run_look S0 hv h1 h6 n))) (gb_nx (gs_ex (go_call (k := 1) (run := r_look_table S0) rfl (go_cons (go_v rfl) go_nil) rfl (run_look S0 hv h1 h6 n))) (gb_ex (gs_exX (go_callX (k := 1) (run := r_look_deep S0) rfl (go_cons (go_v rfl) go_nil) rfl (x_deep n hf))))))
theorem x_firstB {b : D} (f : D) (hb : b ∈ bads) : r_first_parting S0 [tabD t, b, f] n = .ex "BadTable" n :=
  gf_ex (gb_nx (gs_ex (go_call (k := 1) (run := r_look_table S0) rfl (go_cons (go_v rfl) go_nil) rfl (run_look S0 hv h1 h6 n))) (gb_ex (gs_exX (go_callX (k := 1) (run := r_look_table S0) rfl (go_cons (go_v rfl) go_nil) rfl (x_bad n hb)))))
theorem x_holds {f : D} (hf : f ∈ fars2) : r_holds_more S0 [tabD t, tabD t, f] n = .ex "BadNumber" n :=
  gf_ex (gb_nx (gs_ex (go_call (k := 1) (run := r_look_table S0) rfl (go_cons (go_v rfl) go_nil) rfl (run_look S0 hv h1 h6 n))) (gb_nx (gs_ex (go_call (k := 1) (run := r_look_table S0) rfl (go_cons (go_v rfl) go_nil) rfl (run_look S0 hv h1 h6 n))) (gb_ex (gs_exX (go_callX (k := 1) (run := r_look_deep S0) rfl (go_cons (go_v rfl) go_nil) rfl (x_deep n hf))))))
theorem x_holdsB {b : D} (f : D) (hb : b ∈ bads) : r_holds_more S0 [tabD t, b, f] n = .ex "BadTable" n :=
  gf_ex (gb_nx (gs_ex (go_call (k := 1) (run := r_look_table S0) rfl (go_cons (go_v rfl) go_nil) rfl (run_look S0 hv h1 h6 n))) (gb_ex (gs_exX (go_callX (k := 1) (run := r_look_table S0) rfl (go_cons (go_v rfl) go_nil) rfl (x_bad n hb)))))
end
end Ko

namespace Ko
open PySem (Str)
open Mv
/-! ### texts in order -/
theorem ms2 {α : Type} (le : α → α → Bool) (a b : α) : [a, b].mergeSort le = if le a b then [a, b] else [b, a] := by
  simp [List.mergeSort, List.merge, List.MergeSort.Internal.splitInTwo]
theorem ms3 {α : Type} (le : α → α → Bool) (a b c : α) : [a, b, c].mergeSort le = List.merge (if le a b then [a, b] else [b, a]) [c] le := by
  rw [List.mergeSort]
  simp [List.MergeSort.Internal.splitInTwo, ms2]
theorem ms3b {α : Type} (le : α → α → Bool) {a b c : α} (h1 : le a b = true) (h2 : le a c = false) : [a, b, c].mergeSort le = [c, a, b] := by
  rw [ms3, if_pos h1]; simp [List.merge, h2]
theorem ms3c {α : Type} (le : α → α → Bool) {a b c : α} (h1 : le a b = false) (h2 : le b c = false) : [a, b, c].mergeSort le = [c, b, a] := by
  rw [ms3, if_neg (by simp [h1])]; simp [List.merge, h2]
def xz : D := .tup [.str "x", .str "z"]
def xy : D := .tup [.str "x", .str "y"]
theorem lo_xz (n : Nat) : r_letters_of S0 [xz] n = .ok (.lst [.str "x", .str "z"]) n := by
  have e1 : strsOf [.str "x", .str "z"] = some [("x" : Str), ("z" : Str)] := by kernel_rfl
  have e2 : onceS [("x" : Str), ("z" : Str)] = [("x" : Str), ("z" : Str)] := by kernel_rfl
  have e3 : sortS [("x" : Str), ("z" : Str)] = [("x" : Str), ("z" : Str)] := by unfold sortS; rw [ms2]; kernel_rfl
  have hs : sem1 S0 .ssetS n (.lst [.str "x", .str "z"]) = some (.lst [.str "x", .str "z"]) := by
    show (strsOf [.str "x", .str "z"]).bind (fun ys => if ys.length ≤ 60 then some (D.lst ((sortS (onceS ys)).map D.str)) else none) = _
    rw [e1, Option.bind_some, e2, e3]; rfl
  show evF S0 (Mv.tabOf (⟨"letters_of", 1, selfRun S0 "letters_of" 1 1 b_letters_of (c_letters_of S0) 5⟩ :: c_letters_of S0)) 1 b_letters_of [xz] n = _
  exact gf_rt (gb_nx (gs_ifF (n1 := n) (by kernel_rfl) gb_nil) (gb_rt (gs_ret (go_p1 (d := .lst [.str "x", .str "z"]) (by kernel_rfl) hs))))
theorem lo_xy (n : Nat) : r_letters_of S0 [xy] n = .ok (.lst [.str "x", .str "y"]) n := by
  have e1 : strsOf [.str "x", .str "y"] = some [("x" : Str), ("y" : Str)] := by kernel_rfl
  have e2 : onceS [("x" : Str), ("y" : Str)] = [("x" : Str), ("y" : Str)] := by kernel_rfl
  have e3 : sortS [("x" : Str), ("y" : Str)] = [("x" : Str), ("y" : Str)] := by unfold sortS; rw [ms2]; kernel_rfl
  have hs : sem1 S0 .ssetS n (.lst [.str "x", .str "y"]) = some (.lst [.str "x", .str "y"]) := by
    show (strsOf [.str "x", .str "y"]).bind (fun ys => if ys.length ≤ 60 then some (D.lst ((sortS (onceS ys)).map D.str)) else none) = _
    rw [e1, Option.bind_some, e2, e3]; rfl
  show evF S0 (Mv.tabOf (⟨"letters_of", 1, selfRun S0 "letters_of" 1 1 b_letters_of (c_letters_of S0) 5⟩ :: c_letters_of S0)) 1 b_letters_of [xy] n = _
  exact gf_rt (gb_nx (gs_ifF (n1 := n) (by kernel_rfl) gb_nil) (gb_rt (gs_ret (go_p1 (d := .lst [.str "x", .str "y"]) (by kernel_rfl) hs))))
def V0 : D := .tup [.int 0, .int 0, .int 0, .int 1]
section
variable (n : Nat)
theorem row_xz : r_row_for S0 [smallT, .int 2, xz] n = .ex "BadSaying" n := by
  have hl : evE S0 (Mv.tabOf (c_row_for S0)) (.call "letters_of" (.cons (.v 2) .nil)) [some smallT, some (.int 2), some xz, none] n = .ok (.lst ([("x" : Str), ("z" : Str)].map D.str)) n := go_call (k := 1) (run := r_letters_of S0) rfl (go_cons (go_v rfl) go_nil) rfl (lo_xz n)
  refine gf_ex (env' := [some smallT, some (.int 2), some xz, none]) (gb_nx (env' := [some smallT, some (.int 2), some xz, none]) (gs_ex (d := .non) (n1 := n) (by kernel_rfl)) (gb_ex (gs_ifT (n1 := n) (go_or (x := false) (y := true) (by kernel_rfl) fun _ => go_p1 (d := .bl true) (go_p1 (go_lc (α := Str) (w := D.str) (f := fun s => .bl (decide (s = "z"))) (xs := [("x" : Str), ("z" : Str)]) (gi_sqL hl) ?_) (by kernel_rfl)) (by kernel_rfl)) (gb_ex gs_rais))))
  intro x hx
  simp only [List.mem_cons, List.not_mem_nil, or_false] at hx
  rcases hx with rfl | rfl
  · kernel_rfl
  · kernel_rfl
theorem row_xy : r_row_for S0 [smallT, .int 2, xy] n = .ok V0 n := by
  have hl : evE S0 (Mv.tabOf (c_row_for S0)) (.call "letters_of" (.cons (.v 2) .nil)) [some smallT, some (.int 2), some xy, none] n = .ok (.lst ([("x" : Str), ("y" : Str)].map D.str)) n := go_call (k := 1) (run := r_letters_of S0) rfl (go_cons (go_v rfl) go_nil) rfl (lo_xy n)
  refine gf_rt (gb_nx (env' := [some smallT, some (.int 2), some xy, none]) (gs_ex (d := .non) (n1 := n) (by kernel_rfl)) (gb_nx (env' := [some smallT, some (.int 2), some xy, none]) (gs_ifF (n1 := n) (go_or (x := false) (y := false) (by kernel_rfl) fun _ => go_p1 (d := .bl false) (go_p1 (go_lc (α := Str) (w := D.str) (f := fun s => .bl (decide (s = "z"))) (xs := [("x" : Str), ("y" : Str)]) (gi_sqL hl) ?_) (by kernel_rfl)) (by kernel_rfl)) gb_nil) (gb_rt (gs_ret (by kernel_rfl)))))
  intro x hx
  simp only [List.mem_cons, List.not_mem_nil, or_false] at hx
  rcases hx with rfl | rfl
  · kernel_rfl
  · kernel_rfl
end
/-! ### the rows made -/
def oK : Out D → List (D × D) | .ok (.fdt k) _ => k | _ => []
def rA : D := .tup [.int 0, .int 0, .int 1, .int 1]
def rB : D := .tup [.int 0, .int 1, .int 0, .int 1]
def V1 : D := .lst [V0, rA, rB]
theorem made (n : Nat) : r_made_rows S0 [smallT, .int 2] n = .ok V1 n := by
  have e1 : (oK (r_least_texts S0 [smallT, .int 2] n)).map (·.1) = [rA, rB, V0] := by kernel_rfl
  have hs : sem1 S0 .skys n (.fdt (oK (r_least_texts S0 [smallT, .int 2] n))) = some V1 := by
    show (if srtOk ((oK (r_least_texts S0 [smallT, .int 2] n)).map (·.1)) then some (D.lst (((oK (r_least_texts S0 [smallT, .int 2] n)).map (·.1)).mergeSort leD)) else none) = _
    rw [e1, if_pos (by kernel_rfl), ms3b leD (by kernel_rfl) (by kernel_rfl)]; rfl
  exact gf_rt (gb_nx (gs_ex (d := .non) (n1 := n) (by kernel_rfl)) (gb_rt (gs_ret (go_p1 (d := .fdt (oK (r_least_texts S0 [smallT, .int 2] n))) (by kernel_rfl) hs))))
/-! ### the last loop -/
theorem hL : T0 "_law_told" = some (2, r_law_told S0) := by kernel_rfl
def fd (d : D) : D := .tup [.str "found", d]
def some1 : D := .lst [.int 0, .int 0, .int 0, .int 1]
theorem one0 (n : Nat) : r_law_one S0 [.int 0, .lst [smallT, smallT, .int 2, xy]] n = .ok V0 n := by
  have h2 : evE S0 (Mv.tabOf (c_law_one S0)) (.call "row_for" (.cons (.v 2) (.cons (.v 4) (.cons (.v 5) .nil)))) [some (.int 0), some (.lst [smallT, smallT, .int 2, xy]), some smallT, some smallT, some (.int 2), some xy] n = .ok V0 n := go_call (k := 3) (run := r_row_for S0) rfl (go_cons (go_v rfl) (go_cons (go_v rfl) (go_cons (go_v rfl) go_nil))) rfl (row_xy n)
  have h1 : evE S0 (Mv.tabOf (c_law_one S0)) (.p2 .eq (.v 0) (.c (.int 0))) [some (.int 0), some (.lst [smallT, smallT, .int 2, xy]), some smallT, some smallT, some (.int 2), some xy] n = .ok (.bl true) n := by kernel_rfl
  have h3 : nol V0 = true := rfl
  refine gf_rt (gb_nx (n1 := n) (env' := [some (.int 0), some (.lst [smallT, smallT, .int 2, xy]), some smallT, some smallT, some (.int 2), some xy]) (by kernel_rfl) (gb_rt (gs_ifT (n1 := n) (by kernel_rfl) (gb_rt (gs_ifT (n1 := n) (by kernel_rfl) (gb_rt ?_))))))
  simp only [evS, evD, h1, h2, h3, SO.of, Out.bind, if_true]
theorem one1 (n : Nat) : r_law_one S0 [.int 1, .lst [smallT, smallT, .int 2, some1]] n = .ok V1 n := by
  have hT : Mv.tabOf (c_law_one S0) "made_rows" = some (2, r_made_rows S0) := rfl
  have h2 : evA S0 (Mv.tabOf (c_law_one S0)) (.cons (.v 2) (.cons (.v 4) .nil)) [some (.int 1), some (.lst [smallT, smallT, .int 2, some1]), some smallT, some smallT, some (.int 2), some some1] n = .ok [smallT, .int 2] n := go_cons (go_v rfl) (go_cons (go_v rfl) go_nil)
  have h0 : [smallT, D.int 2].length = 2 ∧ nolAll [smallT, .int 2] = true := ⟨rfl, rfl⟩
  have h1 : evE S0 (Mv.tabOf (c_law_one S0)) (.p2 .eq (.v 0) (.c (.int 0))) [some (.int 1), some (.lst [smallT, smallT, .int 2, some1]), some smallT, some smallT, some (.int 2), some some1] n = .ok (.bl false) n := by kernel_rfl
  refine gf_rt (gb_nx (n1 := n) (env' := [some (.int 1), some (.lst [smallT, smallT, .int 2, some1]), some smallT, some smallT, some (.int 2), some some1]) (by kernel_rfl) (gb_rt (gs_ifT (n1 := n) (by kernel_rfl) (gb_rt (gs_ifT (n1 := n) (by kernel_rfl) (gb_rt ?_))))))
  simp only [evS, evD, h1, hT, h2, h0, made n, and_self, SO.of, Out.bind, if_true]
theorem told0 (n : Nat) : r_law_told S0 [.int 0, .lst [smallT, smallT, .int 2, xy]] n = .ok (fd V0) n := told_ok (one := r_law_one S0) (one0 n)
theorem told1 (n : Nat) : r_law_told S0 [.int 1, .lst [smallT, smallT, .int 2, some1]] n = .ok (fd V1) n := told_ok (one := r_law_one S0) (one1 n)
theorem gb_spl {S : Sub} {T : Tab} {i j : Nat} {e : MD} {B : MB} {env : Ev} {n n1 n2 : Nat} {d d' : D} {r1 r2 : Fu} {o : SO} (h : evD S T e env n = .ok d n1) (h1 : T "_law_copy" = some (1, r1)) (h2 : T "_law_spoil" = some (1, r2)) (h3 : i < env.length ∧ shp deep d = true ∧ wD d ≤ 1000000) (h4 : r1 [d] n1 = .ok d' n2) (h5 : evB S T B ((env.set i none).set j (some d')) n2 = o) : evB S T (.spl i j e B) env n = o := by
  simp only [evB, h, h1, h2, SO.of]
  rw [if_pos h3]
  simp only [h4, SO.of, h5]
theorem z0 (n : Nat) (o1 o2 o3 o4 o5 : Option D) (sc tw t bd tl fa gr le wi b a od rw : Option D) : ∃ p1 p2 p3 p4 p5, evB S0 T0 b_law_L0 [sc, tw, t, bd, tl, some (.int 0), fa, gr, le, wi, b, a, some smallT, some deepT, od, rw, o1, o2, o3, o4, o5] n = .nx [sc, tw, t, bd, tl, some (.int 0), fa, gr, le, wi, b, a, some smallT, some deepT, od, rw, p1, p2, p3, p4, p5] n := by
  have hc : ∀ o4 o5 : Option D, evE S0 T0 (.call "_law_told" (.cons (.v 5) (.cons (.v 18) .nil))) [sc, tw, t, bd, tl, some (.int 0), fa, gr, le, wi, b, a, some smallT, some deepT, od, rw, some (.int 2), some xy, some (.lst [smallT, smallT, .int 2, xy]), o4, o5] n = .ok (fd V0) n := fun _ _ => go_call hL (go_cons (go_v rfl) (go_cons (go_v rfl) go_nil)) rfl (told0 n)
  have hi : sem2 .idx n (.tup [.str "found", V0]) (.int 1) = some V0 := by kernel_rfl
  have hd : evD S0 T0 (.lst1 (.idx (.callD "_law_told" (.cons (.v 5) (.cons (.v 18) .nil))) 1)) [sc, tw, t, bd, tl, some (.int 0), fa, gr, le, wi, b, a, some smallT, some deepT, od, rw, some (.int 2), some xy, some (.lst [smallT, smallT, .int 2, xy]), o4, o5] n = .ok (.lst [V0]) n := by
    simp only [evD, hc, fd, Out.bind, hi, Out.lift]
  refine ⟨some (.int 2), some xy, some (.lst [smallT, smallT, .int 2, xy]), none, some (.lst [V0]), ?_⟩
  unfold b_law_L0
  refine gb_nx (env' := [sc, tw, t, bd, tl, some (.int 0), fa, gr, le, wi, b, a, some smallT, some deepT, od, rw, some (.int 2), o2, o3, o4, o5]) (n1 := n) (by kernel_rfl) (gb_nx (env' := [sc, tw, t, bd, tl, some (.int 0), fa, gr, le, wi, b, a, some smallT, some deepT, od, rw, some (.int 2), some xy, o3, o4, o5]) (n1 := n) (by kernel_rfl) (gb_nx (env' := [sc, tw, t, bd, tl, some (.int 0), fa, gr, le, wi, b, a, some smallT, some deepT, od, rw, some (.int 2), some xy, some (.lst [smallT, smallT, .int 2, xy]), o4, o5]) (n1 := n) (by kernel_rfl) (gb_spl (r1 := r_law_copy S0) (r2 := r_law_spoil S0) (n2 := n) (d' := .lst [V0]) hd (by kernel_rfl) (by kernel_rfl) ⟨Nat.lt_of_lt_of_le (Nat.lt_succ_self 19) (Nat.le_of_ble_eq_true rfl), by kernel_rfl, Nat.le_of_ble_eq_true (by kernel_rfl)⟩ (by kernel_rfl) ?_)))
  show evB S0 T0 _ [sc, tw, t, bd, tl, some (.int 0), fa, gr, le, wi, b, a, some smallT, some deepT, od, rw, some (.int 2), some xy, some (.lst [smallT, smallT, .int 2, xy]), none, some (.lst [V0])] n = _
  exact gb_nx (gs_ifF (n1 := n) (go_or (x := false) (y := false) (go_p2 (d := .lst [V0]) (go_lst (go_cons (go_p2 (hc _ _) go_c hi) go_nil) rfl) (go_v rfl) (by kernel_rfl)) (fun _ => by kernel_rfl)) gb_nil) gb_nil
theorem z1 (n : Nat) (o1 o2 o3 o4 o5 : Option D) (sc tw t bd tl fa gr le wi b a od rw : Option D) : ∃ p1 p2 p3 p4 p5, evB S0 T0 b_law_L0 [sc, tw, t, bd, tl, some (.int 1), fa, gr, le, wi, b, a, some smallT, some deepT, od, rw, o1, o2, o3, o4, o5] n = .nx [sc, tw, t, bd, tl, some (.int 1), fa, gr, le, wi, b, a, some smallT, some deepT, od, rw, p1, p2, p3, p4, p5] n := by
  have hc : ∀ o4 o5 : Option D, evE S0 T0 (.call "_law_told" (.cons (.v 5) (.cons (.v 18) .nil))) [sc, tw, t, bd, tl, some (.int 1), fa, gr, le, wi, b, a, some smallT, some deepT, od, rw, some (.int 2), some some1, some (.lst [smallT, smallT, .int 2, some1]), o4, o5] n = .ok (fd V1) n := fun _ _ => go_call hL (go_cons (go_v rfl) (go_cons (go_v rfl) go_nil)) rfl (told1 n)
  have hi : sem2 .idx n (.tup [.str "found", V1]) (.int 1) = some V1 := by kernel_rfl
  have hd : evD S0 T0 (.lst1 (.idx (.callD "_law_told" (.cons (.v 5) (.cons (.v 18) .nil))) 1)) [sc, tw, t, bd, tl, some (.int 1), fa, gr, le, wi, b, a, some smallT, some deepT, od, rw, some (.int 2), some some1, some (.lst [smallT, smallT, .int 2, some1]), o4, o5] n = .ok (.lst [V1]) n := by
    simp only [evD, hc, fd, Out.bind, hi, Out.lift]
  refine ⟨some (.int 2), some some1, some (.lst [smallT, smallT, .int 2, some1]), none, some (.lst [V1]), ?_⟩
  unfold b_law_L0
  refine gb_nx (env' := [sc, tw, t, bd, tl, some (.int 1), fa, gr, le, wi, b, a, some smallT, some deepT, od, rw, some (.int 2), o2, o3, o4, o5]) (n1 := n) (by kernel_rfl) (gb_nx (env' := [sc, tw, t, bd, tl, some (.int 1), fa, gr, le, wi, b, a, some smallT, some deepT, od, rw, some (.int 2), some some1, o3, o4, o5]) (n1 := n) (by kernel_rfl) (gb_nx (env' := [sc, tw, t, bd, tl, some (.int 1), fa, gr, le, wi, b, a, some smallT, some deepT, od, rw, some (.int 2), some some1, some (.lst [smallT, smallT, .int 2, some1]), o4, o5]) (n1 := n) (by kernel_rfl) (gb_spl (r1 := r_law_copy S0) (r2 := r_law_spoil S0) (n2 := n) (d' := .lst [V1]) hd (by kernel_rfl) (by kernel_rfl) ⟨Nat.lt_of_lt_of_le (Nat.lt_succ_self 19) (Nat.le_of_ble_eq_true rfl), by kernel_rfl, Nat.le_of_ble_eq_true (by kernel_rfl)⟩ (by kernel_rfl) ?_)))
  show evB S0 T0 _ [sc, tw, t, bd, tl, some (.int 1), fa, gr, le, wi, b, a, some smallT, some deepT, od, rw, some (.int 2), some some1, some (.lst [smallT, smallT, .int 2, some1]), none, some (.lst [V1])] n = _
  exact gb_nx (gs_ifF (n1 := n) (go_or (x := false) (y := false) (go_p2 (d := .lst [V1]) (go_lst (go_cons (go_p2 (hc _ _) go_c hi) go_nil) rfl) (go_v rfl) (by kernel_rfl)) (fun _ => by kernel_rfl)) gb_nil) gb_nil
theorem z2 (n : Nat) (o1 o2 o3 o4 o5 : Option D) (sc tw t bd tl fa gr le wi b a od rw : Option D) : ∃ p1 p2 p3 p4 p5, evB S0 T0 b_law_L0 [sc, tw, t, bd, tl, some (.int 2), fa, gr, le, wi, b, a, some smallT, some deepT, od, rw, o1, o2, o3, o4, o5] n = .nx [sc, tw, t, bd, tl, some (.int 2), fa, gr, le, wi, b, a, some smallT, some deepT, od, rw, p1, p2, p3, p4, p5] n := ⟨pj 16 (evB S0 T0 b_law_L0 [sc, tw, t, bd, tl, some (.int 2), fa, gr, le, wi, b, a, some smallT, some deepT, od, rw, o1, o2, o3, o4, o5] n), pj 17 (evB S0 T0 b_law_L0 [sc, tw, t, bd, tl, some (.int 2), fa, gr, le, wi, b, a, some smallT, some deepT, od, rw, o1, o2, o3, o4, o5] n), pj 18 (evB S0 T0 b_law_L0 [sc, tw, t, bd, tl, some (.int 2), fa, gr, le, wi, b, a, some smallT, some deepT, od, rw, o1, o2, o3, o4, o5] n), pj 19 (evB S0 T0 b_law_L0 [sc, tw, t, bd, tl, some (.int 2), fa, gr, le, wi, b, a, some smallT, some deepT, od, rw, o1, o2, o3, o4, o5] n), pj 20 (evB S0 T0 b_law_L0 [sc, tw, t, bd, tl, some (.int 2), fa, gr, le, wi, b, a, some smallT, some deepT, od, rw, o1, o2, o3, o4, o5] n), by kernel_rfl⟩
theorem z3 (n : Nat) (o1 o2 o3 o4 o5 : Option D) (sc tw t bd tl fa gr le wi b a od rw : Option D) : ∃ p1 p2 p3 p4 p5, evB S0 T0 b_law_L0 [sc, tw, t, bd, tl, some (.int 3), fa, gr, le, wi, b, a, some smallT, some deepT, od, rw, o1, o2, o3, o4, o5] n = .nx [sc, tw, t, bd, tl, some (.int 3), fa, gr, le, wi, b, a, some smallT, some deepT, od, rw, p1, p2, p3, p4, p5] n := ⟨pj 16 (evB S0 T0 b_law_L0 [sc, tw, t, bd, tl, some (.int 3), fa, gr, le, wi, b, a, some smallT, some deepT, od, rw, o1, o2, o3, o4, o5] n), pj 17 (evB S0 T0 b_law_L0 [sc, tw, t, bd, tl, some (.int 3), fa, gr, le, wi, b, a, some smallT, some deepT, od, rw, o1, o2, o3, o4, o5] n), pj 18 (evB S0 T0 b_law_L0 [sc, tw, t, bd, tl, some (.int 3), fa, gr, le, wi, b, a, some smallT, some deepT, od, rw, o1, o2, o3, o4, o5] n), pj 19 (evB S0 T0 b_law_L0 [sc, tw, t, bd, tl, some (.int 3), fa, gr, le, wi, b, a, some smallT, some deepT, od, rw, o1, o2, o3, o4, o5] n), pj 20 (evB S0 T0 b_law_L0 [sc, tw, t, bd, tl, some (.int 3), fa, gr, le, wi, b, a, some smallT, some deepT, od, rw, o1, o2, o3, o4, o5] n), by kernel_rfl⟩
theorem z4 (n : Nat) (o1 o2 o3 o4 o5 : Option D) (sc tw t bd tl fa gr le wi b a od rw : Option D) : ∃ p1 p2 p3 p4 p5, evB S0 T0 b_law_L0 [sc, tw, t, bd, tl, some (.int 4), fa, gr, le, wi, b, a, some smallT, some deepT, od, rw, o1, o2, o3, o4, o5] n = .nx [sc, tw, t, bd, tl, some (.int 4), fa, gr, le, wi, b, a, some smallT, some deepT, od, rw, p1, p2, p3, p4, p5] n := ⟨pj 16 (evB S0 T0 b_law_L0 [sc, tw, t, bd, tl, some (.int 4), fa, gr, le, wi, b, a, some smallT, some deepT, od, rw, o1, o2, o3, o4, o5] n), pj 17 (evB S0 T0 b_law_L0 [sc, tw, t, bd, tl, some (.int 4), fa, gr, le, wi, b, a, some smallT, some deepT, od, rw, o1, o2, o3, o4, o5] n), pj 18 (evB S0 T0 b_law_L0 [sc, tw, t, bd, tl, some (.int 4), fa, gr, le, wi, b, a, some smallT, some deepT, od, rw, o1, o2, o3, o4, o5] n), pj 19 (evB S0 T0 b_law_L0 [sc, tw, t, bd, tl, some (.int 4), fa, gr, le, wi, b, a, some smallT, some deepT, od, rw, o1, o2, o3, o4, o5] n), pj 20 (evB S0 T0 b_law_L0 [sc, tw, t, bd, tl, some (.int 4), fa, gr, le, wi, b, a, some smallT, some deepT, od, rw, o1, o2, o3, o4, o5] n), by kernel_rfl⟩
theorem z5 (n : Nat) (o1 o2 o3 o4 o5 : Option D) (sc tw t bd tl fa gr le wi b a od rw : Option D) : ∃ p1 p2 p3 p4 p5, evB S0 T0 b_law_L0 [sc, tw, t, bd, tl, some (.int 5), fa, gr, le, wi, b, a, some smallT, some deepT, od, rw, o1, o2, o3, o4, o5] n = .nx [sc, tw, t, bd, tl, some (.int 5), fa, gr, le, wi, b, a, some smallT, some deepT, od, rw, p1, p2, p3, p4, p5] n := ⟨pj 16 (evB S0 T0 b_law_L0 [sc, tw, t, bd, tl, some (.int 5), fa, gr, le, wi, b, a, some smallT, some deepT, od, rw, o1, o2, o3, o4, o5] n), pj 17 (evB S0 T0 b_law_L0 [sc, tw, t, bd, tl, some (.int 5), fa, gr, le, wi, b, a, some smallT, some deepT, od, rw, o1, o2, o3, o4, o5] n), pj 18 (evB S0 T0 b_law_L0 [sc, tw, t, bd, tl, some (.int 5), fa, gr, le, wi, b, a, some smallT, some deepT, od, rw, o1, o2, o3, o4, o5] n), pj 19 (evB S0 T0 b_law_L0 [sc, tw, t, bd, tl, some (.int 5), fa, gr, le, wi, b, a, some smallT, some deepT, od, rw, o1, o2, o3, o4, o5] n), pj 20 (evB S0 T0 b_law_L0 [sc, tw, t, bd, tl, some (.int 5), fa, gr, le, wi, b, a, some smallT, some deepT, od, rw, o1, o2, o3, o4, o5] n), by kernel_rfl⟩
theorem z6 (n : Nat) (o1 o2 o3 o4 o5 : Option D) (sc tw t bd tl fa gr le wi b a od rw : Option D) : ∃ p1 p2 p3 p4 p5, evB S0 T0 b_law_L0 [sc, tw, t, bd, tl, some (.int 6), fa, gr, le, wi, b, a, some smallT, some deepT, od, rw, o1, o2, o3, o4, o5] n = .nx [sc, tw, t, bd, tl, some (.int 6), fa, gr, le, wi, b, a, some smallT, some deepT, od, rw, p1, p2, p3, p4, p5] n := ⟨pj 16 (evB S0 T0 b_law_L0 [sc, tw, t, bd, tl, some (.int 6), fa, gr, le, wi, b, a, some smallT, some deepT, od, rw, o1, o2, o3, o4, o5] n), pj 17 (evB S0 T0 b_law_L0 [sc, tw, t, bd, tl, some (.int 6), fa, gr, le, wi, b, a, some smallT, some deepT, od, rw, o1, o2, o3, o4, o5] n), pj 18 (evB S0 T0 b_law_L0 [sc, tw, t, bd, tl, some (.int 6), fa, gr, le, wi, b, a, some smallT, some deepT, od, rw, o1, o2, o3, o4, o5] n), pj 19 (evB S0 T0 b_law_L0 [sc, tw, t, bd, tl, some (.int 6), fa, gr, le, wi, b, a, some smallT, some deepT, od, rw, o1, o2, o3, o4, o5] n), pj 20 (evB S0 T0 b_law_L0 [sc, tw, t, bd, tl, some (.int 6), fa, gr, le, wi, b, a, some smallT, some deepT, od, rw, o1, o2, o3, o4, o5] n), by kernel_rfl⟩
end Ko

namespace Ko
open PySem (Str)
open Mv
abbrev en (ns : List Int) (t bd tl kd fa gr le wi sm dp od rw p1 p2 p3 p4 p5 : Option D) : Ev := [some (.scr ns), some .town, t, bd, tl, kd, fa, gr, le, wi, none, none, sm, dp, od, rw, p1, p2, p3, p4, p5]
theorem nolI : ∀ l : List Int, nolAll (l.map D.int) = true
  | [] => rfl
  | _ :: r => by simp only [List.map_cons, nolAll, nol, Bool.true_and]; exact nolI r
theorem nolT : ∀ t : List (List Int), nolAll (tup2 t) = true
  | [] => rfl
  | a :: r => by
    show (nol (D.tup (a.map D.int)) && nolAll (tup2 r)) = true
    rw [nolT r, Bool.and_true]; show nolAll (a.map D.int) = true; exact nolI a
theorem nolF {t : List (List Int)} {f : D} (hf : f ∈ fars) : nolAll [tabD t, f] = true := by
  show (nolAll (tup2 t) && (nol f && true)) = true
  rw [nolT t, Bool.true_and, Bool.and_true]
  simp only [fars, List.mem_cons, List.not_mem_nil, or_false] at hf
  rcases hf with rfl | rfl | rfl | rfl <;> rfl
def tl7 (x : Str) : D := .lst (List.replicate 7 (rf x))
def tl9 (x : Str) : D := .lst (List.replicate 9 (rf x))
def tl4 (x : Str) : D := .lst (List.replicate 4 (rf x))
def wideT (g : Nat) : D := .tup ((List.range g).map fun a => .tup ((List.range g).map fun b => .int ((min a b : Nat) : Int)))
def greats : List D := [.tup [.int 3, .int 2], .tup [.int 3, .int 3], .tup [.int 4, .int 2], .tup [.int 5, .int 1], .tup [.int 6, .int 1], .tup [.int 6, .int 3]]
def odds : List D := [.str "z", .tup [.str "x", .str "z"], .str "", .str "xy", .tup [.str "x"], .tup [.str "x", .str "y", .str "x"], deepT]
def rowsB : List D := [.lst [.int 0, .int 1, .int 1], .lst [.int 0, .int 1, .int 1, .int 2], .lst [.int 0, .int 1, .int 1, .int (-1)], .lst (List.replicate 5 (.int 0)), .lst []]
theorem hP : T0 "_law_pick" = some (3, r_law_pick S0) := by kernel_rfl
theorem hB : T0 "_law_table" = some (3, r_law_table S0) := by kernel_rfl
section
variable (ns : List Int) (n : Nat) (T bd fa gr le : D)
theorem q2 (hb : bd ∈ bads) : evS S0 T0 b_law_2 (en ns (some T) (some bd) none none none none none none none none none none none none none none none) n = .nx (en ns (some T) (some bd) (some (tl7 "table")) none none none none none none none none none none none none none none) n := by
  simp only [bads, List.mem_cons, List.not_mem_nil, or_false] at hb
  rcases hb with rfl | rfl | rfl | rfl | rfl | rfl
  · kernel_rfl
  · kernel_rfl
  · kernel_rfl
  · kernel_rfl
  · kernel_rfl
  · kernel_rfl
theorem q3 {m : Nat} {t : List (List Int)} (hv : Vt m t) (h1 : 1 ≤ m) (h6 : m ≤ 6) (hb : bd ∈ bads) : evS S0 T0 b_law_3 (en ns (some (tabD t)) (some bd) (some (tl7 "table")) none none none none none none none none none none none none none none) n = .nx (en ns (some (tabD t)) (some bd) (some (tl9 "table")) none none none none none none none none none none none none none none) n := by
  refine gs_set (go_p2 (go_v rfl) (go_lc (α := Int) (w := D.int) (f := fun _ => rf "table") (xs := [5, 6]) (gi_sqT (n1 := n) (by kernel_rfl)) ?_) (by kernel_rfl)) rfl
  intro x hx
  simp only [List.mem_cons, List.not_mem_nil, or_false] at hx
  rcases hx with rfl | rfl
  · refine go_call hL (go_cons (go_v rfl) (go_cons (go_lst (go_cons (go_v rfl) (go_cons (go_v rfl) (go_cons (d := .int (-1)) (n2 := n) (by kernel_rfl) (go_cons go_c go_nil)))) rfl) go_nil)) rfl ?_
    rw [told_eq]; exact told_BadTable5 _ _ _ _ _ _ _ _ _ _ _ _ (x_firstB hv h1 h6 n _ hb)
  · refine go_call hL (go_cons (go_v rfl) (go_cons (go_lst (go_cons (go_v rfl) (go_cons (go_v rfl) (go_cons (d := .int (-1)) (n2 := n) (by kernel_rfl) (go_cons go_c go_nil)))) rfl) go_nil)) rfl ?_
    rw [told_eq]; exact told_BadTable6 _ _ _ _ _ _ _ _ _ _ _ _ (x_holdsB hv h1 h6 n _ hb)
theorem q4 : evS S0 T0 b_law_4 (en ns (some T) (some bd) (some (tl9 "table")) none none none none none none none none none none none none none none) n = .nx (en ns (some T) (some bd) (some (tl9 "table")) none none none none none none none none none none none none none none) n := by kernel_rfl
theorem q6 {m : Nat} {t : List (List Int)} (hv : Vt m t) (h1 : 1 ≤ m) (h6 : m ≤ 6) (hf : fa ∈ fars) : evS S0 T0 b_law_6 (en ns (some (tabD t)) (some bd) (some (tl9 "table")) none (some fa) none none none none none none none none none none none none) n = .nx (en ns (some (tabD t)) (some bd) (some (tl4 "number")) none (some fa) none none none none none none none none none none none none) n := by
  refine gs_set (go_lc (α := Int) (w := D.int) (f := fun _ => rf "number") (xs := [0, 1, 2, 3]) (n1 := n) (by kernel_rfl) ?_) rfl
  intro x hx
  simp only [List.mem_cons, List.not_mem_nil, or_false] at hx
  rcases hx with rfl | rfl | rfl | rfl
  · refine go_call hL (go_cons (go_v rfl) (go_cons (go_lst (go_cons (go_v rfl) (go_cons (go_v rfl) (go_cons (go_v rfl) (go_cons go_c go_nil)))) rfl) go_nil)) rfl ?_
    rw [told_eq]; exact told_BadNumber0 _ _ _ _ _ _ _ _ _ _ _ _ (x_row hv h1 h6 n _ hf)
  · refine go_call hL (go_cons (go_v rfl) (go_cons (go_lst (go_cons (go_v rfl) (go_cons (go_v rfl) (go_cons (go_v rfl) (go_cons go_c go_nil)))) rfl) go_nil)) rfl ?_
    rw [told_eq]; exact told_BadNumber1 _ _ _ _ _ _ _ _ _ _ _ _ (nolF hf) (x_made hv h1 h6 n hf)
  · refine go_call hL (go_cons (go_v rfl) (go_cons (go_lst (go_cons (go_v rfl) (go_cons (go_v rfl) (go_cons (go_v rfl) (go_cons go_c go_nil)))) rfl) go_nil)) rfl ?_
    rw [told_eq]; exact told_BadNumber2 _ _ _ _ _ _ _ _ _ _ _ _ (x_least hv h1 h6 n _ hf)
  · refine go_call hL (go_cons (go_v rfl) (go_cons (go_lst (go_cons (go_v rfl) (go_cons (go_v rfl) (go_cons (go_v rfl) (go_cons go_c go_nil)))) rfl) go_nil)) rfl ?_
    rw [told_eq]; exact told_BadNumber3 _ _ _ _ _ _ _ _ _ _ _ _ (x_rich hv h1 h6 n hf)
theorem q7 {m : Nat} {t : List (List Int)} (hv : Vt m t) (h1 : 1 ≤ m) (h6 : m ≤ 6) {a b c : D} (ha : a ∈ fars2) (hb : b ∈ fars2) (hc : c ∈ fars2)
    (k1 : r_law_pick S0 [.scr ns, .town, .lst fars2] n = .ok a (n + 1)) (k2 : r_law_pick S0 [.scr ns, .town, .lst fars2] (n + 1) = .ok b (n + 2)) (k3 : r_law_pick S0 [.scr ns, .town, .lst fars2] (n + 2) = .ok c (n + 3)) : evS S0 T0 b_law_7 (en ns (some (tabD t)) (some bd) (some (tl4 "number")) none (some fa) none none none none none none none none none none none none) n = .nx (en ns (some (tabD t)) (some bd) (some (tl7 "number")) none (some fa) none none none none none none none none none none none none) (n + 3) := by
  refine gs_set (go_p2 (go_v rfl) (go_lc3 (x1 := .int 4) (x2 := .int 5) (x3 := .int 6) (r1 := rf "number") (r2 := rf "number") (r3 := rf "number") (n0 := n) (n1 := n + 1) (n2 := n + 2) (by kernel_rfl) ?_ ?_ ?_) (by kernel_rfl)) rfl
  · refine go_call hL (go_cons (go_v rfl) (go_cons (go_lst (go_cons (go_v rfl) (go_cons (go_v rfl) (go_cons (go_call hP (go_cons (go_v rfl) (go_cons (go_v rfl) (go_cons (d := .lst fars2) (n2 := n) (by kernel_rfl) go_nil))) rfl k1) (go_cons go_c go_nil)))) rfl) go_nil)) rfl ?_
    rw [told_eq]; exact told_BadNumber4 _ _ _ _ _ _ _ _ _ _ _ _ (x_held hv h1 h6 (n + 1) ha)
  · refine go_call hL (go_cons (go_v rfl) (go_cons (go_lst (go_cons (go_v rfl) (go_cons (go_v rfl) (go_cons (go_call hP (go_cons (go_v rfl) (go_cons (go_v rfl) (go_cons (d := .lst fars2) (n2 := n + 1) (by kernel_rfl) go_nil))) rfl k2) (go_cons go_c go_nil)))) rfl) go_nil)) rfl ?_
    rw [told_eq]; exact told_BadNumber5 _ _ _ _ _ _ _ _ _ _ _ _ (x_first hv h1 h6 (n + 2) hb)
  · refine go_call hL (go_cons (go_v rfl) (go_cons (go_lst (go_cons (go_v rfl) (go_cons (go_v rfl) (go_cons (go_call hP (go_cons (go_v rfl) (go_cons (go_v rfl) (go_cons (d := .lst fars2) (n2 := n + 2) (by kernel_rfl) go_nil))) rfl k3) (go_cons go_c go_nil)))) rfl) go_nil)) rfl ?_
    rw [told_eq]; exact told_BadNumber6 _ _ _ _ _ _ _ _ _ _ _ _ (x_holds hv h1 h6 (n + 3) hc)
theorem q8 : evS S0 T0 b_law_8 (en ns (some T) (some bd) (some (tl7 "number")) none (some fa) none none none none none none none none none none none none) n = .nx (en ns (some T) (some bd) (some (tl7 "number")) none (some fa) none none none none none none none none none none none none) n := by kernel_rfl
theorem q9 {d : D} (hd : d ∈ greats) (hp : r_law_pick S0 [.scr ns, .town, .lst greats] n = .ok d (n + 1)) : ∃ gr le wi, evS S0 T0 b_law_9 (en ns (some T) (some bd) (some (tl7 "number")) none (some fa) none none none none none none none none none none none none) n = .nx (en ns (some T) (some bd) (some (tl7 "number")) none (some fa) (some gr) (some le) none none none none none none none none none none) (n + 1) ∧ (∀ n, evS S0 T0 b_law_10 (en ns (some T) (some bd) (some (tl7 "number")) none (some fa) (some gr) (some le) none none none none none none none none none none) n = .nx (en ns (some T) (some bd) (some (tl7 "number")) none (some fa) (some gr) (some le) (some wi) none none none none none none none none none) n) ∧ (∀ n, evS S0 T0 b_law_11 (en ns (some T) (some bd) (some (tl7 "number")) none (some fa) (some gr) (some le) (some wi) none none none none none none none none none) n = .nx (en ns (some T) (some bd) (some (tl7 "number")) none (some fa) (some gr) (some le) (some wi) none none none none none none none none none) n) := by
  have h9 : ∀ g l : D, d = .tup [g, l] → evS S0 T0 b_law_9 (en ns (some T) (some bd) (some (tl7 "number")) none (some fa) none none none none none none none none none none none none) n = .nx (en ns (some T) (some bd) (some (tl7 "number")) none (some fa) (some g) (some l) none none none none none none none none none none) (n + 1) := fun g l e => gs_unp (go_call hP (go_cons (go_v rfl) (go_cons (go_v rfl) (go_cons (d := .lst greats) (n2 := n) (by kernel_rfl) go_nil))) rfl hp) (by subst e; rfl)
  simp only [greats, List.mem_cons, List.not_mem_nil, or_false] at hd
  rcases hd with e | e | e | e | e | e
  · exact ⟨.int 3, .int 2, wideT 3, h9 _ _ e, fun n => by kernel_rfl, fun n => by kernel_rfl⟩
  · exact ⟨.int 3, .int 3, wideT 3, h9 _ _ e, fun n => by kernel_rfl, fun n => by kernel_rfl⟩
  · exact ⟨.int 4, .int 2, wideT 4, h9 _ _ e, fun n => by kernel_rfl, fun n => by kernel_rfl⟩
  · exact ⟨.int 5, .int 1, wideT 5, h9 _ _ e, fun n => by kernel_rfl, fun n => by kernel_rfl⟩
  · exact ⟨.int 6, .int 1, wideT 6, h9 _ _ e, fun n => by kernel_rfl, fun n => by kernel_rfl⟩
  · exact ⟨.int 6, .int 3, wideT 6, h9 _ _ e, fun n => by kernel_rfl, fun n => by kernel_rfl⟩
variable (wi od rw : D)
theorem q12 : evS S0 T0 b_law_12 (en ns (some T) (some bd) (some (tl7 "number")) none (some fa) (some gr) (some le) (some wi) none none none none none none none none none) n = .nx (en ns (some T) (some bd) (some (tl7 "number")) none (some fa) (some gr) (some le) (some wi) (some smallT) none none none none none none none none) n := by kernel_rfl
theorem q13 : evS S0 T0 b_law_13 (en ns (some T) (some bd) (some (tl7 "number")) none (some fa) (some gr) (some le) (some wi) (some smallT) none none none none none none none none) n = .nx (en ns (some T) (some bd) (some (tl7 "number")) none (some fa) (some gr) (some le) (some wi) (some smallT) (some deepT) none none none none none none none) n := by kernel_rfl
theorem q14 (hp : r_law_pick S0 [.scr ns, .town, .lst odds] n = .ok od (n + 1)) : evS S0 T0 b_law_14 (en ns (some T) (some bd) (some (tl7 "number")) none (some fa) (some gr) (some le) (some wi) (some smallT) (some deepT) none none none none none none none) n = .nx (en ns (some T) (some bd) (some (tl7 "number")) none (some fa) (some gr) (some le) (some wi) (some smallT) (some deepT) (some od) none none none none none none) (n + 1) :=
  gs_set (go_call hP (go_cons (go_v rfl) (go_cons (go_v rfl) (go_cons (d := .lst odds) (n2 := n) (by kernel_rfl) go_nil))) rfl hp) rfl
theorem toldO (ho : od ∈ odds) : r_law_told S0 [.int 0, .lst [smallT, smallT, .int 2, od]] n = .ok (rf "saying") n := by
  simp only [odds, List.mem_cons, List.not_mem_nil, or_false] at ho
  rcases ho with rfl | rfl | rfl | rfl | rfl | rfl | rfl
  · kernel_rfl
  · rw [told_eq]; exact told_BadSaying0 _ _ _ _ _ _ _ _ _ _ _ _ (row_xz n)
  · kernel_rfl
  · kernel_rfl
  · kernel_rfl
  · kernel_rfl
  · kernel_rfl
theorem q15 (ho : od ∈ odds) : evS S0 T0 b_law_15 (en ns (some T) (some bd) (some (tl7 "number")) none (some fa) (some gr) (some le) (some wi) (some smallT) (some deepT) (some od) none none none none none none) n = .nx (en ns (some T) (some bd) (some (tl7 "number")) none (some fa) (some gr) (some le) (some wi) (some smallT) (some deepT) (some od) none none none none none none) n :=
  gs_ifF (go_p2 (go_call hL (go_cons go_c (go_cons (go_lst (go_cons (go_v rfl) (go_cons (go_v rfl) (go_cons go_c (go_cons (go_v rfl) go_nil)))) rfl) go_nil)) rfl (toldO n od ho)) (d1 := rf "saying") (n2 := n) (by kernel_rfl) (by kernel_rfl)) gb_nil
theorem q16 : evS S0 T0 b_law_16 (en ns (some T) (some bd) (some (tl7 "number")) none (some fa) (some gr) (some le) (some wi) (some smallT) (some deepT) (some od) none none none none none none) n = .nx (en ns (some T) (some bd) (some (tl7 "number")) none (some fa) (some gr) (some le) (some wi) (some smallT) (some deepT) (some od) (some (.lst rowsB)) none none none none none) n := by kernel_rfl
theorem toldR (ho : rw ∈ rowsB) : r_law_told S0 [.int 2, .lst [smallT, smallT, .int 2, rw]] n = .ok (rf "number") n := by
  simp only [rowsB, List.mem_cons, List.not_mem_nil, or_false] at ho
  rcases ho with rfl | rfl | rfl | rfl | rfl
  · kernel_rfl
  · kernel_rfl
  · kernel_rfl
  · kernel_rfl
  · kernel_rfl
theorem q17 (ho : rw ∈ rowsB) (hp : r_law_pick S0 [.scr ns, .town, .lst rowsB] n = .ok rw (n + 1)) : evS S0 T0 b_law_17 (en ns (some T) (some bd) (some (tl7 "number")) none (some fa) (some gr) (some le) (some wi) (some smallT) (some deepT) (some od) (some (.lst rowsB)) none none none none none) n = .nx (en ns (some T) (some bd) (some (tl7 "number")) none (some fa) (some gr) (some le) (some wi) (some smallT) (some deepT) (some od) (some (.lst rowsB)) none none none none none) (n + 1) :=
  gs_ifF (go_p2 (go_call hL (go_cons go_c (go_cons (go_lst (go_cons (go_v rfl) (go_cons (go_v rfl) (go_cons go_c (go_cons (go_call hP (go_cons (go_v rfl) (go_cons (go_v rfl) (go_cons (go_v rfl) go_nil))) rfl hp) go_nil)))) rfl) go_nil)) rfl (toldR (n + 1) rw ho)) (d1 := rf "number") (n2 := n + 1) (by kernel_rfl) (by kernel_rfl)) gb_nil
theorem q18 : ∃ p1 p2 p3 p4 p5, evS S0 T0 b_law_18 (en ns (some T) (some bd) (some (tl7 "number")) none (some fa) (some gr) (some le) (some wi) (some smallT) (some deepT) (some od) (some (.lst rowsB)) none none none none none) n = .nx (en ns (some T) (some bd) (some (tl7 "number")) (some (.int 6)) (some fa) (some gr) (some le) (some wi) (some smallT) (some deepT) (some od) (some (.lst rowsB)) p1 p2 p3 p4 p5) n := by
  obtain ⟨a0, b0, c0, d0, w0, e0⟩ := z0 n none none none none none (some (.scr ns)) (some .town) (some T) (some bd) (some (tl7 "number")) (some fa) (some gr) (some le) (some wi) none none (some od) (some (.lst rowsB))
  obtain ⟨a1, b1, c1, d1, w1, e1⟩ := z1 n a0 b0 c0 d0 w0 (some (.scr ns)) (some .town) (some T) (some bd) (some (tl7 "number")) (some fa) (some gr) (some le) (some wi) none none (some od) (some (.lst rowsB))
  obtain ⟨a2, b2, c2, d2, w2, e2⟩ := z2 n a1 b1 c1 d1 w1 (some (.scr ns)) (some .town) (some T) (some bd) (some (tl7 "number")) (some fa) (some gr) (some le) (some wi) none none (some od) (some (.lst rowsB))
  obtain ⟨a3, b3, c3, d3, w3, e3⟩ := z3 n a2 b2 c2 d2 w2 (some (.scr ns)) (some .town) (some T) (some bd) (some (tl7 "number")) (some fa) (some gr) (some le) (some wi) none none (some od) (some (.lst rowsB))
  obtain ⟨a4, b4, c4, d4, w4, e4⟩ := z4 n a3 b3 c3 d3 w3 (some (.scr ns)) (some .town) (some T) (some bd) (some (tl7 "number")) (some fa) (some gr) (some le) (some wi) none none (some od) (some (.lst rowsB))
  obtain ⟨a5, b5, c5, d5, w5, e5⟩ := z5 n a4 b4 c4 d4 w4 (some (.scr ns)) (some .town) (some T) (some bd) (some (tl7 "number")) (some fa) (some gr) (some le) (some wi) none none (some od) (some (.lst rowsB))
  obtain ⟨a6, b6, c6, d6, w6, e6⟩ := z6 n a5 b5 c5 d5 w5 (some (.scr ns)) (some .town) (some T) (some bd) (some (tl7 "number")) (some fa) (some gr) (some le) (some wi) none none (some od) (some (.lst rowsB))
  refine ⟨a6, b6, c6, d6, w6, gs_for (xs := [.int 0, .int 1, .int 2, .int 3, .int 4, .int 5, .int 6]) (n1 := n) (by kernel_rfl) ?_⟩
  exact forL_cons e0 (forL_cons e1 (forL_cons e2 (forL_cons e3 (forL_cons e4 (forL_cons e5 (forL_cons e6 (rfl)))))))
end
theorem plain : ∀ ns : List Int, ns.length ≤ 63 → ∃ n, evB S0 T0 b_law (some (.scr ns) :: some .town :: List.replicate 19 none) 0 = .rt (.bl true) n := by
  intro ns _
  have hline : line = 16777216 := rfl
  obtain ⟨m, t, n, h1, h6, hv, hn, e0⟩ := run_table S0 ns 6 0 (by omega) (by omega) (by omega)
  obtain ⟨bd, hb, e1⟩ := run_pick S0 ns bads n (by simp [bads]) (by omega)
  obtain ⟨fa, hf, e5⟩ := run_pick S0 ns fars (n + 1) (by simp [fars]) (by omega)
  obtain ⟨a, ha, ea⟩ := run_pick S0 ns fars2 (n + 2) (by simp [fars2]) (by omega)
  obtain ⟨b, hb2, eb⟩ := run_pick S0 ns fars2 (n + 3) (by simp [fars2]) (by omega)
  obtain ⟨c, hc, ec⟩ := run_pick S0 ns fars2 (n + 4) (by simp [fars2]) (by omega)
  obtain ⟨d, hd, e9⟩ := run_pick S0 ns greats (n + 5) (by simp [greats]) (by omega)
  obtain ⟨od, ho, e14⟩ := run_pick S0 ns odds (n + 6) (by simp [odds]) (by omega)
  obtain ⟨rw, hr, e17⟩ := run_pick S0 ns rowsB (n + 7) (by simp [rowsB]) (by omega)
  have s0 : evS S0 T0 b_law_0 (en ns none none none none none none none none none none none none none none none none none) 0 = .nx (en ns (some (tabD t)) none none none none none none none none none none none none none none none none) n := gs_set (go_call hB (go_cons (go_v rfl) (go_cons (go_v rfl) (go_cons go_c go_nil))) rfl e0) rfl
  have s1 : evS S0 T0 b_law_1 (en ns (some (tabD t)) none none none none none none none none none none none none none none none none) n = .nx (en ns (some (tabD t)) (some bd) none none none none none none none none none none none none none none none) (n + 1) := gs_set (go_call hP (go_cons (go_v rfl) (go_cons (go_v rfl) (go_cons (d := .lst bads) (n2 := n) (by kernel_rfl) go_nil))) rfl e1) rfl
  have s5 : evS S0 T0 b_law_5 (en ns (some (tabD t)) (some bd) (some (tl9 "table")) none none none none none none none none none none none none none none) (n + 1) = .nx (en ns (some (tabD t)) (some bd) (some (tl9 "table")) none (some fa) none none none none none none none none none none none none) (n + 2) := gs_set (go_call hP (go_cons (go_v rfl) (go_cons (go_v rfl) (go_cons (d := .lst fars) (n2 := n + 1) (by kernel_rfl) go_nil))) rfl e5) rfl
  obtain ⟨gr, le, wi, s9, s10, s11⟩ := q9 ns (n + 5) (tabD t) bd fa hd e9
  obtain ⟨p1, p2, p3, p4, p5, s18⟩ := q18 ns (n + 8) (tabD t) bd fa gr le wi od
  refine ⟨n + 8, ?_⟩
  show evB S0 T0 b_law (en ns none none none none none none none none none none none none none none none none none) 0 = _
  unfold b_law
  rw [evB_nx s0, evB_nx s1, evB_nx (q2 ns (n + 1) (tabD t) bd hb), evB_nx (q3 ns (n + 1) bd hv h1 h6 hb), evB_nx (q4 ns (n + 1) (tabD t) bd), evB_nx s5, evB_nx (q6 ns (n + 2) bd fa hv h1 h6 hf), evB_nx (q7 ns (n + 2) bd fa hv h1 h6 ha hb2 hc ea eb ec), evB_nx (q8 ns (n + 5) (tabD t) bd fa), evB_nx s9, evB_nx (s10 (n + 6)), evB_nx (s11 (n + 6)), evB_nx (q12 ns (n + 6) (tabD t) bd fa gr le wi), evB_nx (q13 ns (n + 6) (tabD t) bd fa gr le wi), evB_nx (q14 ns (n + 6) (tabD t) bd fa gr le wi od e14), evB_nx (q15 ns (n + 7) (tabD t) bd fa gr le wi od ho), evB_nx (q16 ns (n + 7) (tabD t) bd fa gr le wi od), evB_nx (q17 ns (n + 7) (tabD t) bd fa gr le wi od rw hr e17), evB_nx s18]
  rfl
end Ko

namespace Ko
open PySem PySem.Spec PyProof.Rows L2 L2.Ms Mv
def ownOf (l : List (Nat × Nat)) : Nat → Nat := fun i => (l.lookup i).getD 0
def cf (N : List Str) : Cfg := ⟨N, fr, gc, ec⟩
theorem s_look_table : FnScope N_look_table ["table"] (defScope (top 12)) := ⟨rfl, rfl, rfl, by decide +kernel, rfl, by decide +kernel, by decide +kernel⟩
theorem e_look_table : cB (cf N_look_table) (ownOf []) [] 60 (defScope (top 12)) (defBody (top 12)) = b_look_table := by kernel_rfl
theorem s_is_term : FnScope N_is_term ["term", "deep"] (defScope (top 16)) := ⟨rfl, rfl, rfl, by decide +kernel, rfl, by decide +kernel, by decide +kernel⟩
theorem e_is_term : cB (cf N_is_term) (ownOf []) [] 60 (defScope (top 16)) (defBody (top 16)) = b_is_term := by kernel_rfl
theorem s_letters_of : FnScope N_letters_of ["term"] (defScope (top 17)) := ⟨rfl, rfl, rfl, by decide +kernel, rfl, by decide +kernel, by decide +kernel⟩
theorem e_letters_of : cB (cf N_letters_of) (ownOf []) [] 60 (defScope (top 17)) (defBody (top 17)) = b_letters_of := by kernel_rfl
theorem s_worth : FnScope N_worth ["table", "term", "things"] (defScope (top 18)) := ⟨rfl, rfl, rfl, by decide +kernel, rfl, by decide +kernel, by decide +kernel⟩
theorem e_worth : cB (cf N_worth) (ownOf []) [] 60 (defScope (top 18)) (defBody (top 18)) = b_worth := by kernel_rfl
theorem s_term_text : FnScope N_term_text ["term"] (defScope (top 19)) := ⟨rfl, rfl, rfl, by decide +kernel, rfl, by decide +kernel, by decide +kernel⟩
theorem e_term_text : cB (cf N_term_text) (ownOf []) [] 60 (defScope (top 19)) (defBody (top 19)) = b_term_text := by kernel_rfl
theorem s_all_things : FnScope N_all_things ["size", "letters"] (defScope (top 23)) := ⟨rfl, rfl, rfl, by decide +kernel, rfl, by decide +kernel, by decide +kernel⟩
theorem e_all_things : cB (cf N_all_things) (ownOf [(4, 1)]) [(56, [4]), (57, [4])] 60 (defScope (top 23)) (defBody (top 23)) = b_all_things := by kernel_rfl
theorem s_look_letters : FnScope N_look_letters ["table", "letters"] (defScope (top 24)) := ⟨rfl, rfl, rfl, by decide +kernel, rfl, by decide +kernel, by decide +kernel⟩
theorem e_look_letters : cB (cf N_look_letters) (ownOf []) [] 60 (defScope (top 24)) (defBody (top 24)) = b_look_letters := by kernel_rfl
theorem s_worths : FnScope N_worths ["table", "letters", "term"] (defScope (top 25)) := ⟨rfl, rfl, rfl, by decide +kernel, rfl, by decide +kernel, by decide +kernel⟩
theorem e_worths : cB (cf N_worths) (ownOf []) [] 60 (defScope (top 25)) (defBody (top 25)) = b_worths := by kernel_rfl
theorem s_row_for : FnScope N_row_for ["table", "letters", "term"] (defScope (top 26)) := ⟨rfl, rfl, rfl, by decide +kernel, rfl, by decide +kernel, by decide +kernel⟩
theorem e_row_for : cB (cf N_row_for) (ownOf []) [] 60 (defScope (top 26)) (defBody (top 26)) = b_row_for := by kernel_rfl
theorem s_look_small : FnScope N_look_small ["table", "letters"] (defScope (top 27)) := ⟨rfl, rfl, rfl, by decide +kernel, rfl, by decide +kernel, by decide +kernel⟩
theorem e_look_small : cB (cf N_look_small) (ownOf []) [] 60 (defScope (top 27)) (defBody (top 27)) = b_look_small := by kernel_rfl
theorem s_both_of : FnScope N_both_of ["table", "one", "other"] (defScope (top 28)) := ⟨rfl, rfl, rfl, by decide +kernel, rfl, by decide +kernel, by decide +kernel⟩
theorem e_both_of : cB (cf N_both_of) (ownOf []) [] 60 (defScope (top 28)) (defBody (top 28)) = b_both_of := by kernel_rfl
theorem s_least_texts : FnScope N_least_texts ["table", "letters"] (defScope (top 29)) := ⟨rfl, rfl, rfl, by decide +kernel, rfl, by decide +kernel, by decide +kernel⟩
theorem e_least_texts : cB (cf N_least_texts) (ownOf [(2, 1), (5, 1), (7, 1), (2002, 9), (2007, 9)]) [(98, [5]), (300098, [2])] 60 (defScope (top 29)) (defBody (top 29)) = b_least_texts := by kernel_rfl
theorem s_made_rows : FnScope N_made_rows ["table", "letters"] (defScope (top 30)) := ⟨rfl, rfl, rfl, by decide +kernel, rfl, by decide +kernel, by decide +kernel⟩
theorem e_made_rows : cB (cf N_made_rows) (ownOf []) [] 60 (defScope (top 30)) (defBody (top 30)) = b_made_rows := by kernel_rfl
theorem s_least_term : FnScope N_least_term ["table", "letters", "row"] (defScope (top 31)) := ⟨rfl, rfl, rfl, by decide +kernel, rfl, by decide +kernel, by decide +kernel⟩
theorem e_least_term : cB (cf N_least_term) (ownOf []) [] 60 (defScope (top 31)) (defBody (top 31)) = b_least_term := by kernel_rfl
theorem s_is_rich : FnScope N_is_rich ["table", "letters"] (defScope (top 32)) := ⟨rfl, rfl, rfl, by decide +kernel, rfl, by decide +kernel, by decide +kernel⟩
theorem e_is_rich : cB (cf N_is_rich) (ownOf []) [] 60 (defScope (top 32)) (defBody (top 32)) = b_is_rich := by kernel_rfl
theorem s_all_terms : FnScope N_all_terms ["deep"] (defScope (top 35)) := ⟨rfl, rfl, rfl, by decide +kernel, rfl, by decide +kernel, by decide +kernel⟩
theorem e_all_terms : cB (cf N_all_terms) (ownOf [(3, 1)]) [(122, [3])] 60 (defScope (top 35)) (defBody (top 35)) = b_all_terms := by kernel_rfl
theorem s_look_deep : FnScope N_look_deep ["deep"] (defScope (top 36)) := ⟨rfl, rfl, rfl, by decide +kernel, rfl, by decide +kernel, by decide +kernel⟩
theorem e_look_deep : cB (cf N_look_deep) (ownOf []) [] 60 (defScope (top 36)) (defBody (top 36)) = b_look_deep := by kernel_rfl
theorem s_groups : FnScope N_groups ["table", "deep"] (defScope (top 37)) := ⟨rfl, rfl, rfl, by decide +kernel, rfl, by decide +kernel, by decide +kernel⟩
theorem e_groups : cB (cf N_groups) (ownOf [(2, 1), (3, 1), (2002, 9), (2003, 8)]) [(300133, [3])] 60 (defScope (top 37)) (defBody (top 37)) = b_groups := by kernel_rfl
theorem s_held_many : FnScope N_held_many ["table", "deep"] (defScope (top 38)) := ⟨rfl, rfl, rfl, by decide +kernel, rfl, by decide +kernel, by decide +kernel⟩
theorem e_held_many : cB (cf N_held_many) (ownOf [(2, 1), (2002, 8)]) [(300141, [2])] 60 (defScope (top 38)) (defBody (top 38)) = b_held_many := by kernel_rfl
theorem s_first_parting : FnScope N_first_parting ["one", "other", "deep"] (defScope (top 39)) := ⟨rfl, rfl, rfl, by decide +kernel, rfl, by decide +kernel, by decide +kernel⟩
theorem e_first_parting : cB (cf N_first_parting) (ownOf []) [] 60 (defScope (top 39)) (defBody (top 39)) = b_first_parting := by kernel_rfl
theorem s_holds_more : FnScope N_holds_more ["one", "other", "deep"] (defScope (top 40)) := ⟨rfl, rfl, rfl, by decide +kernel, rfl, by decide +kernel, by decide +kernel⟩
theorem e_holds_more : cB (cf N_holds_more) (ownOf [(5, 1), (2005, 8)]) [] 60 (defScope (top 40)) (defBody (top 40)) = b_holds_more := by kernel_rfl
theorem s_law_cell : FnScope N_law_cell ["script", "k"] (defScope (top 42)) := ⟨rfl, rfl, rfl, by decide +kernel, rfl, by decide +kernel, by decide +kernel⟩
theorem e_law_cell : cB (cf N_law_cell) (ownOf []) [] 60 (defScope (top 42)) (defBody (top 42)) = b_law_cell := by kernel_rfl
theorem s_law_mix : FnScope N_law_mix ["script", "k"] (defScope (top 43)) := ⟨rfl, rfl, rfl, by decide +kernel, rfl, by decide +kernel, by decide +kernel⟩
theorem e_law_mix : cB (cf N_law_mix) (ownOf []) [] 60 (defScope (top 43)) (defBody (top 43)) = b_law_mix := by kernel_rfl
theorem s_law_draw : FnScope N_law_draw ["script", "town", "many"] (defScope (top 44)) := ⟨rfl, rfl, rfl, by decide +kernel, rfl, by decide +kernel, by decide +kernel⟩
theorem e_law_draw : cB (cf N_law_draw) (ownOf []) [] 60 (defScope (top 44)) (defBody (top 44)) = b_law_draw := by kernel_rfl
theorem s_law_pick : FnScope N_law_pick ["script", "town", "some"] (defScope (top 45)) := ⟨rfl, rfl, rfl, by decide +kernel, rfl, by decide +kernel, by decide +kernel⟩
theorem e_law_pick : cB (cf N_law_pick) (ownOf []) [] 60 (defScope (top 45)) (defBody (top 45)) = b_law_pick := by kernel_rfl
theorem s_law_refusal : FnScope N_law_refusal ["caught"] (defScope (top 46)) := ⟨rfl, rfl, rfl, by decide +kernel, rfl, by decide +kernel, by decide +kernel⟩
theorem e_law_refusal : cB (cf N_law_refusal) (ownOf []) [] 60 (defScope (top 46)) (defBody (top 46)) = b_law_refusal := by kernel_rfl
theorem s_law_named : FnScope N_law_named ["table", "names"] (defScope (top 48)) := ⟨rfl, rfl, rfl, by decide +kernel, rfl, by decide +kernel, by decide +kernel⟩
theorem e_law_named : cB (cf N_law_named) (ownOf [(4, 1)]) [(209, [4])] 60 (defScope (top 48)) (defBody (top 48)) = b_law_named := by kernel_rfl
theorem s_law_table : FnScope N_law_table ["script", "town", "most"] (defScope (top 47)) := ⟨rfl, rfl, rfl, by decide +kernel, rfl, by decide +kernel, by decide +kernel⟩
theorem e_law_table : cB (cf N_law_table) (ownOf [(5, 2), (7, 1), (10, 1)]) [(203, [5, 7, 10])] 60 (defScope (top 47)) (defBody (top 47)) = b_law_table := by kernel_rfl
theorem s_law_copy : FnScope N_law_copy ["thing"] (defScope (top 49)) := ⟨rfl, rfl, rfl, by decide +kernel, rfl, by decide +kernel, by decide +kernel⟩
theorem e_law_copy : cB (cf N_law_copy) (ownOf [(1000, 7)]) [] 60 (defScope (top 49)) (defBody (top 49)) = b_law_copy := by kernel_rfl
theorem s_law_spoil : FnScope N_law_spoil ["thing"] (defScope (top 50)) := ⟨rfl, rfl, rfl, by decide +kernel, rfl, by decide +kernel, by decide +kernel⟩
theorem e_law_spoil : spB (defBody (top 50)) = true := by kernel_rfl
theorem s_law_one : FnScope N_law_one ["kind", "given"] (defScope (top 51)) := ⟨rfl, rfl, rfl, by decide +kernel, rfl, by decide +kernel, by decide +kernel⟩
theorem e_law_one : cB (cf N_law_one) (ownOf [(1000, 7)]) [] 60 (defScope (top 51)) (defBody (top 51)) = b_law_one := by kernel_rfl
theorem s_law_told : FnScope N_law_told ["kind", "some"] (defScope (top 52)) := ⟨rfl, rfl, rfl, by decide +kernel, rfl, by decide +kernel, by decide +kernel⟩
theorem e_law_told : cB (cf N_law_told) (ownOf [(1000, 7)]) [] 60 (defScope (top 52)) (defBody (top 52)) = b_law_told := by kernel_rfl
theorem s_law : FnScope N_law ["script"] (defScope (top 53)) := ⟨rfl, rfl, rfl, by decide +kernel, rfl, by decide +kernel, by decide +kernel⟩
theorem e_law : cB (cf N_law) (ownOf []) [] 60 (defScope (top 53)) ((defBody (top 53)).tail) = b_law := by kernel_rfl
structure Facts (P : Program) (w : World) (K : PySem.W.Frag) (mg : Str → Option Value) (base : Heap) : Prop where
  M : MF fr gc ec (subS ec) K mg
  f_look_table : ∃ fd, FunD K "look_table" "look_table" (defArgs (top 12)) (defBody (top 12)) (defScope (top 12)) [] [] (He.ga K "look_table") fd
  g_look_table : mg "look_table" = some (.ref (He.ga K "look_table"))
  f_is_term : ∃ fd, FunD K "is_term" "is_term" (defArgs (top 16)) (defBody (top 16)) (defScope (top 16)) [] [] (He.ga K "is_term") fd
  g_is_term : mg "is_term" = some (.ref (He.ga K "is_term"))
  f_letters_of : ∃ fd, FunD K "letters_of" "letters_of" (defArgs (top 17)) (defBody (top 17)) (defScope (top 17)) [] [] (He.ga K "letters_of") fd
  g_letters_of : mg "letters_of" = some (.ref (He.ga K "letters_of"))
  f_worth : ∃ fd, FunD K "worth" "worth" (defArgs (top 18)) (defBody (top 18)) (defScope (top 18)) [] [] (He.ga K "worth") fd
  g_worth : mg "worth" = some (.ref (He.ga K "worth"))
  f_term_text : ∃ fd, FunD K "term_text" "term_text" (defArgs (top 19)) (defBody (top 19)) (defScope (top 19)) [] [] (He.ga K "term_text") fd
  g_term_text : mg "term_text" = some (.ref (He.ga K "term_text"))
  f_all_things : ∃ fd, FunD K "all_things" "all_things" (defArgs (top 23)) (defBody (top 23)) (defScope (top 23)) [] [] (He.ga K "all_things") fd
  g_all_things : mg "all_things" = some (.ref (He.ga K "all_things"))
  f_look_letters : ∃ fd, FunD K "look_letters" "look_letters" (defArgs (top 24)) (defBody (top 24)) (defScope (top 24)) [] [] (He.ga K "look_letters") fd
  g_look_letters : mg "look_letters" = some (.ref (He.ga K "look_letters"))
  f_worths : ∃ fd, FunD K "worths" "worths" (defArgs (top 25)) (defBody (top 25)) (defScope (top 25)) [] [] (He.ga K "worths") fd
  g_worths : mg "worths" = some (.ref (He.ga K "worths"))
  f_row_for : ∃ fd, FunD K "row_for" "row_for" (defArgs (top 26)) (defBody (top 26)) (defScope (top 26)) [] [] (He.ga K "row_for") fd
  g_row_for : mg "row_for" = some (.ref (He.ga K "row_for"))
  f_look_small : ∃ fd, FunD K "look_small" "look_small" (defArgs (top 27)) (defBody (top 27)) (defScope (top 27)) [] [] (He.ga K "look_small") fd
  g_look_small : mg "look_small" = some (.ref (He.ga K "look_small"))
  f_both_of : ∃ fd, FunD K "both_of" "both_of" (defArgs (top 28)) (defBody (top 28)) (defScope (top 28)) [] [] (He.ga K "both_of") fd
  g_both_of : mg "both_of" = some (.ref (He.ga K "both_of"))
  f_least_texts : ∃ fd, FunD K "least_texts" "least_texts" (defArgs (top 29)) (defBody (top 29)) (defScope (top 29)) [] [] (He.ga K "least_texts") fd
  g_least_texts : mg "least_texts" = some (.ref (He.ga K "least_texts"))
  f_made_rows : ∃ fd, FunD K "made_rows" "made_rows" (defArgs (top 30)) (defBody (top 30)) (defScope (top 30)) [] [] (He.ga K "made_rows") fd
  g_made_rows : mg "made_rows" = some (.ref (He.ga K "made_rows"))
  f_least_term : ∃ fd, FunD K "least_term" "least_term" (defArgs (top 31)) (defBody (top 31)) (defScope (top 31)) [] [] (He.ga K "least_term") fd
  g_least_term : mg "least_term" = some (.ref (He.ga K "least_term"))
  f_is_rich : ∃ fd, FunD K "is_rich" "is_rich" (defArgs (top 32)) (defBody (top 32)) (defScope (top 32)) [] [] (He.ga K "is_rich") fd
  g_is_rich : mg "is_rich" = some (.ref (He.ga K "is_rich"))
  f_all_terms : ∃ fd, FunD K "all_terms" "all_terms" (defArgs (top 35)) (defBody (top 35)) (defScope (top 35)) [] [] (He.ga K "all_terms") fd
  g_all_terms : mg "all_terms" = some (.ref (He.ga K "all_terms"))
  f_look_deep : ∃ fd, FunD K "look_deep" "look_deep" (defArgs (top 36)) (defBody (top 36)) (defScope (top 36)) [] [] (He.ga K "look_deep") fd
  g_look_deep : mg "look_deep" = some (.ref (He.ga K "look_deep"))
  f_groups : ∃ fd, FunD K "groups" "groups" (defArgs (top 37)) (defBody (top 37)) (defScope (top 37)) [] [] (He.ga K "groups") fd
  g_groups : mg "groups" = some (.ref (He.ga K "groups"))
  f_held_many : ∃ fd, FunD K "held_many" "held_many" (defArgs (top 38)) (defBody (top 38)) (defScope (top 38)) [] [] (He.ga K "held_many") fd
  g_held_many : mg "held_many" = some (.ref (He.ga K "held_many"))
  f_first_parting : ∃ fd, FunD K "first_parting" "first_parting" (defArgs (top 39)) (defBody (top 39)) (defScope (top 39)) [] [] (He.ga K "first_parting") fd
  g_first_parting : mg "first_parting" = some (.ref (He.ga K "first_parting"))
  f_holds_more : ∃ fd, FunD K "holds_more" "holds_more" (defArgs (top 40)) (defBody (top 40)) (defScope (top 40)) [] [] (He.ga K "holds_more") fd
  g_holds_more : mg "holds_more" = some (.ref (He.ga K "holds_more"))
  f_law_cell : ∃ fd, FunD K "_law_cell" "_law_cell" (defArgs (top 42)) (defBody (top 42)) (defScope (top 42)) [] [] (He.ga K "_law_cell") fd
  g_law_cell : mg "_law_cell" = some (.ref (He.ga K "_law_cell"))
  f_law_mix : ∃ fd, FunD K "_law_mix" "_law_mix" (defArgs (top 43)) (defBody (top 43)) (defScope (top 43)) [] [] (He.ga K "_law_mix") fd
  g_law_mix : mg "_law_mix" = some (.ref (He.ga K "_law_mix"))
  f_law_draw : ∃ fd, FunD K "_law_draw" "_law_draw" (defArgs (top 44)) (defBody (top 44)) (defScope (top 44)) [] [] (He.ga K "_law_draw") fd
  g_law_draw : mg "_law_draw" = some (.ref (He.ga K "_law_draw"))
  f_law_pick : ∃ fd, FunD K "_law_pick" "_law_pick" (defArgs (top 45)) (defBody (top 45)) (defScope (top 45)) [] [] (He.ga K "_law_pick") fd
  g_law_pick : mg "_law_pick" = some (.ref (He.ga K "_law_pick"))
  f_law_refusal : ∃ fd, FunD K "_law_refusal" "_law_refusal" (defArgs (top 46)) (defBody (top 46)) (defScope (top 46)) [] [] (He.ga K "_law_refusal") fd
  g_law_refusal : mg "_law_refusal" = some (.ref (He.ga K "_law_refusal"))
  f_law_named : ∃ fd, FunD K "_law_named" "_law_named" (defArgs (top 48)) (defBody (top 48)) (defScope (top 48)) [] [] (He.ga K "_law_named") fd
  g_law_named : mg "_law_named" = some (.ref (He.ga K "_law_named"))
  f_law_table : ∃ fd, FunD K "_law_table" "_law_table" (defArgs (top 47)) (defBody (top 47)) (defScope (top 47)) [] [] (He.ga K "_law_table") fd
  g_law_table : mg "_law_table" = some (.ref (He.ga K "_law_table"))
  f_law_copy : ∃ fd, FunD K "_law_copy" "_law_copy" (defArgs (top 49)) (defBody (top 49)) (defScope (top 49)) [] [] (He.ga K "_law_copy") fd
  g_law_copy : mg "_law_copy" = some (.ref (He.ga K "_law_copy"))
  f_law_spoil : ∃ fd, FunD K "_law_spoil" "_law_spoil" (defArgs (top 50)) (defBody (top 50)) (defScope (top 50)) [] [] (He.ga K "_law_spoil") fd
  g_law_spoil : mg "_law_spoil" = some (.ref (He.ga K "_law_spoil"))
  f_law_one : ∃ fd, FunD K "_law_one" "_law_one" (defArgs (top 51)) (defBody (top 51)) (defScope (top 51)) [] [] (He.ga K "_law_one") fd
  g_law_one : mg "_law_one" = some (.ref (He.ga K "_law_one"))
  f_law_told : ∃ fd, FunD K "_law_told" "_law_told" (defArgs (top 52)) (defBody (top 52)) (defScope (top 52)) [] [] (He.ga K "_law_told") fd
  g_law_told : mg "_law_told" = some (.ref (He.ga K "_law_told"))
  f_law : ∃ fd, FunD K "law" "law" (defArgs (top 53)) (defBody (top 53)) (defScope (top 53)) [] [] (He.ga K "law") fd
  g_law : mg "law" = some (.ref (He.ga K "law"))
section
variable {P : Program} {w : World} {K : PySem.W.Frag} {mg : Str → Option Value} {base : Heap}
theorem ok_look_table (F : Facts P w K mg base) : FnG P w K mg base 1 "look_table" 1 (r_look_table (subS ec)) := by
  obtain ⟨fd, D⟩ := F.f_look_table
  exact fn_sound (L := 0) (g := cf N_look_table) (k := 60) (own := ownOf []) D F.g_look_table s_look_table F.M tab_nil e_look_table (by decide +kernel) (by decide) (by decide +kernel) (by decide) (fun _ _ _ _ _ _ us hl => match us, hl with | [_], _ => rfl)
theorem ok_is_term (F : Facts P w K mg base) : FnG P w K mg base 6 "is_term" 2 (r_is_term (subS ec)) := by
  obtain ⟨fd, D⟩ := F.f_is_term
  exact self_sound (L := 0) (g := cf N_is_term) (k := 60) (own := ownOf []) D F.g_is_term s_is_term F.M tab_nil e_is_term (by decide +kernel) (by decide) (by decide +kernel) (by decide) (fun _ _ _ _ _ _ us hl => match us, hl with | [_, _], _ => rfl) 6
theorem ok_letters_of (F : Facts P w K mg base) : FnG P w K mg base 6 "letters_of" 1 (r_letters_of (subS ec)) := by
  obtain ⟨fd, D⟩ := F.f_letters_of
  exact self_sound (L := 0) (g := cf N_letters_of) (k := 60) (own := ownOf []) D F.g_letters_of s_letters_of F.M tab_nil e_letters_of (by decide +kernel) (by decide) (by decide +kernel) (by decide) (fun _ _ _ _ _ _ us hl => match us, hl with | [_], _ => rfl) 6
theorem ok_worth (F : Facts P w K mg base) : FnG P w K mg base 6 "worth" 3 (r_worth (subS ec)) := by
  obtain ⟨fd, D⟩ := F.f_worth
  exact self_sound (L := 0) (g := cf N_worth) (k := 60) (own := ownOf []) D F.g_worth s_worth F.M tab_nil e_worth (by decide +kernel) (by decide) (by decide +kernel) (by decide) (fun _ _ _ _ _ _ us hl => match us, hl with | [_, _, _], _ => rfl) 6
theorem ok_term_text (F : Facts P w K mg base) : FnG P w K mg base 6 "term_text" 1 (r_term_text (subS ec)) := by
  obtain ⟨fd, D⟩ := F.f_term_text
  exact self_sound (L := 0) (g := cf N_term_text) (k := 60) (own := ownOf []) D F.g_term_text s_term_text F.M tab_nil e_term_text (by decide +kernel) (by decide) (by decide +kernel) (by decide) (fun _ _ _ _ _ _ us hl => match us, hl with | [_], _ => rfl) 6
theorem ok_all_things (F : Facts P w K mg base) : FnG P w K mg base 1 "all_things" 2 (r_all_things (subS ec)) := by
  obtain ⟨fd, D⟩ := F.f_all_things
  exact fn_sound (L := 0) (g := cf N_all_things) (k := 60) (own := ownOf [(4, 1)]) D F.g_all_things s_all_things F.M tab_nil e_all_things (by decide +kernel) (by decide) (by decide +kernel) (by decide) (fun _ _ _ _ _ _ us hl => match us, hl with | [_, _], _ => rfl)
theorem ok_look_letters (F : Facts P w K mg base) : FnG P w K mg base 2 "look_letters" 2 (r_look_letters (subS ec)) := by
  obtain ⟨fd, D⟩ := F.f_look_letters
  exact fn_sound (L := 1) (g := cf N_look_letters) (k := 60) (own := ownOf []) D F.g_look_letters s_look_letters F.M (tab_cons (ok_look_table F) (by decide) tab_nil) e_look_letters (by decide +kernel) (by decide) (by decide +kernel) (by decide) (fun _ _ _ _ _ _ us hl => match us, hl with | [_, _], _ => rfl)
theorem ok_worths (F : Facts P w K mg base) : FnG P w K mg base 7 "worths" 3 (r_worths (subS ec)) := by
  obtain ⟨fd, D⟩ := F.f_worths
  exact fn_sound (L := 6) (g := cf N_worths) (k := 60) (own := ownOf []) D F.g_worths s_worths F.M (tab_cons (ok_worth F) (by decide) (tab_cons (ok_all_things F) (by decide) tab_nil)) e_worths (by decide +kernel) (by decide) (by decide +kernel) (by decide) (fun _ _ _ _ _ _ us hl => match us, hl with | [_, _, _], _ => rfl)
theorem ok_row_for (F : Facts P w K mg base) : FnG P w K mg base 8 "row_for" 3 (r_row_for (subS ec)) := by
  obtain ⟨fd, D⟩ := F.f_row_for
  exact fn_sound (L := 7) (g := cf N_row_for) (k := 60) (own := ownOf []) D F.g_row_for s_row_for F.M (tab_cons (ok_is_term F) (by decide) (tab_cons (ok_letters_of F) (by decide) (tab_cons (ok_look_letters F) (by decide) (tab_cons (ok_worths F) (by decide) tab_nil)))) e_row_for (by decide +kernel) (by decide) (by decide +kernel) (by decide) (fun _ _ _ _ _ _ us hl => match us, hl with | [_, _, _], _ => rfl)
theorem ok_look_small (F : Facts P w K mg base) : FnG P w K mg base 3 "look_small" 2 (r_look_small (subS ec)) := by
  obtain ⟨fd, D⟩ := F.f_look_small
  exact fn_sound (L := 2) (g := cf N_look_small) (k := 60) (own := ownOf []) D F.g_look_small s_look_small F.M (tab_cons (ok_all_things F) (by decide) (tab_cons (ok_look_letters F) (by decide) tab_nil)) e_look_small (by decide +kernel) (by decide) (by decide +kernel) (by decide) (fun _ _ _ _ _ _ us hl => match us, hl with | [_, _], _ => rfl)
theorem ok_both_of (F : Facts P w K mg base) : FnG P w K mg base 1 "both_of" 3 (r_both_of (subS ec)) := by
  obtain ⟨fd, D⟩ := F.f_both_of
  exact fn_sound (L := 0) (g := cf N_both_of) (k := 60) (own := ownOf []) D F.g_both_of s_both_of F.M tab_nil e_both_of (by decide +kernel) (by decide) (by decide +kernel) (by decide) (fun _ _ _ _ _ _ us hl => match us, hl with | [_, _, _], _ => rfl)
theorem ok_least_texts (F : Facts P w K mg base) : FnG P w K mg base 8 "least_texts" 2 (r_least_texts (subS ec)) := by
  obtain ⟨fd, D⟩ := F.f_least_texts
  exact fn_sound (L := 7) (g := cf N_least_texts) (k := 60) (own := ownOf [(2, 1), (5, 1), (7, 1), (2002, 9), (2007, 9)]) D F.g_least_texts s_least_texts F.M (tab_cons (ok_worths F) (by decide) (tab_cons (ok_both_of F) (by decide) tab_nil)) e_least_texts (by decide +kernel) (by decide) (by decide +kernel) (by decide) (fun _ _ _ _ _ _ us hl => match us, hl with | [_, _], _ => rfl)
theorem ok_made_rows (F : Facts P w K mg base) : FnG P w K mg base 9 "made_rows" 2 (r_made_rows (subS ec)) := by
  obtain ⟨fd, D⟩ := F.f_made_rows
  exact fn_sound (L := 8) (g := cf N_made_rows) (k := 60) (own := ownOf []) D F.g_made_rows s_made_rows F.M (tab_cons (ok_look_small F) (by decide) (tab_cons (ok_least_texts F) (by decide) tab_nil)) e_made_rows (by decide +kernel) (by decide) (by decide +kernel) (by decide) (fun _ _ _ _ _ _ us hl => match us, hl with | [_, _], _ => rfl)
theorem ok_least_term (F : Facts P w K mg base) : FnG P w K mg base 9 "least_term" 3 (r_least_term (subS ec)) := by
  obtain ⟨fd, D⟩ := F.f_least_term
  exact fn_sound (L := 8) (g := cf N_least_term) (k := 60) (own := ownOf []) D F.g_least_term s_least_term F.M (tab_cons (ok_all_things F) (by decide) (tab_cons (ok_look_small F) (by decide) (tab_cons (ok_least_texts F) (by decide) tab_nil))) e_least_term (by decide +kernel) (by decide) (by decide +kernel) (by decide) (fun _ _ _ _ _ _ us hl => match us, hl with | [_, _, _], _ => rfl)
theorem ok_is_rich (F : Facts P w K mg base) : FnG P w K mg base 9 "is_rich" 2 (r_is_rich (subS ec)) := by
  obtain ⟨fd, D⟩ := F.f_is_rich
  exact fn_sound (L := 8) (g := cf N_is_rich) (k := 60) (own := ownOf []) D F.g_is_rich s_is_rich F.M (tab_cons (ok_all_things F) (by decide) (tab_cons (ok_look_small F) (by decide) (tab_cons (ok_least_texts F) (by decide) tab_nil))) e_is_rich (by decide +kernel) (by decide) (by decide +kernel) (by decide) (fun _ _ _ _ _ _ us hl => match us, hl with | [_, _], _ => rfl)
theorem ok_all_terms (F : Facts P w K mg base) : FnG P w K mg base 1 "all_terms" 1 (r_all_terms (subS ec)) := by
  obtain ⟨fd, D⟩ := F.f_all_terms
  exact fn_sound (L := 0) (g := cf N_all_terms) (k := 60) (own := ownOf [(3, 1)]) D F.g_all_terms s_all_terms F.M tab_nil e_all_terms (by decide +kernel) (by decide) (by decide +kernel) (by decide) (fun _ _ _ _ _ _ us hl => match us, hl with | [_], _ => rfl)
theorem ok_look_deep (F : Facts P w K mg base) : FnG P w K mg base 1 "look_deep" 1 (r_look_deep (subS ec)) := by
  obtain ⟨fd, D⟩ := F.f_look_deep
  exact fn_sound (L := 0) (g := cf N_look_deep) (k := 60) (own := ownOf []) D F.g_look_deep s_look_deep F.M tab_nil e_look_deep (by decide +kernel) (by decide) (by decide +kernel) (by decide) (fun _ _ _ _ _ _ us hl => match us, hl with | [_], _ => rfl)
theorem ok_groups (F : Facts P w K mg base) : FnG P w K mg base 8 "groups" 2 (r_groups (subS ec)) := by
  obtain ⟨fd, D⟩ := F.f_groups
  exact fn_sound (L := 7) (g := cf N_groups) (k := 60) (own := ownOf [(2, 1), (3, 1), (2002, 9), (2003, 8)]) D F.g_groups s_groups F.M (tab_cons (ok_term_text F) (by decide) (tab_cons (ok_worths F) (by decide) (tab_cons (ok_all_terms F) (by decide) tab_nil))) e_groups (by decide +kernel) (by decide) (by decide +kernel) (by decide) (fun _ _ _ _ _ _ us hl => match us, hl with | [_, _], _ => rfl)
theorem ok_held_many (F : Facts P w K mg base) : FnG P w K mg base 9 "held_many" 2 (r_held_many (subS ec)) := by
  obtain ⟨fd, D⟩ := F.f_held_many
  exact fn_sound (L := 8) (g := cf N_held_many) (k := 60) (own := ownOf [(2, 1), (2002, 8)]) D F.g_held_many s_held_many F.M (tab_cons (ok_look_table F) (by decide) (tab_cons (ok_look_deep F) (by decide) (tab_cons (ok_groups F) (by decide) tab_nil))) e_held_many (by decide +kernel) (by decide) (by decide +kernel) (by decide) (fun _ _ _ _ _ _ us hl => match us, hl with | [_, _], _ => rfl)
theorem ok_first_parting (F : Facts P w K mg base) : FnG P w K mg base 9 "first_parting" 3 (r_first_parting (subS ec)) := by
  obtain ⟨fd, D⟩ := F.f_first_parting
  exact fn_sound (L := 8) (g := cf N_first_parting) (k := 60) (own := ownOf []) D F.g_first_parting s_first_parting F.M (tab_cons (ok_look_table F) (by decide) (tab_cons (ok_look_deep F) (by decide) (tab_cons (ok_groups F) (by decide) tab_nil))) e_first_parting (by decide +kernel) (by decide) (by decide +kernel) (by decide) (fun _ _ _ _ _ _ us hl => match us, hl with | [_, _, _], _ => rfl)
theorem ok_holds_more (F : Facts P w K mg base) : FnG P w K mg base 9 "holds_more" 3 (r_holds_more (subS ec)) := by
  obtain ⟨fd, D⟩ := F.f_holds_more
  exact fn_sound (L := 8) (g := cf N_holds_more) (k := 60) (own := ownOf [(5, 1), (2005, 8)]) D F.g_holds_more s_holds_more F.M (tab_cons (ok_look_table F) (by decide) (tab_cons (ok_look_deep F) (by decide) (tab_cons (ok_groups F) (by decide) tab_nil))) e_holds_more (by decide +kernel) (by decide) (by decide +kernel) (by decide) (fun _ _ _ _ _ _ us hl => match us, hl with | [_, _, _], _ => rfl)
theorem ok_law_cell (F : Facts P w K mg base) : FnG P w K mg base 1 "_law_cell" 2 (r_law_cell (subS ec)) := by
  obtain ⟨fd, D⟩ := F.f_law_cell
  exact fn_sound (L := 0) (g := cf N_law_cell) (k := 60) (own := ownOf []) D F.g_law_cell s_law_cell F.M tab_nil e_law_cell (by decide +kernel) (by decide) (by decide +kernel) (by decide) (fun _ _ _ _ _ _ us hl => match us, hl with | [_, _], _ => rfl)
theorem ok_law_mix (F : Facts P w K mg base) : FnG P w K mg base 2 "_law_mix" 2 (r_law_mix (subS ec)) := by
  obtain ⟨fd, D⟩ := F.f_law_mix
  exact fn_sound (L := 1) (g := cf N_law_mix) (k := 60) (own := ownOf []) D F.g_law_mix s_law_mix F.M (tab_cons (ok_law_cell F) (by decide) tab_nil) e_law_mix (by decide +kernel) (by decide) (by decide +kernel) (by decide) (fun _ _ _ _ _ _ us hl => match us, hl with | [_, _], _ => rfl)
theorem ok_law_draw (F : Facts P w K mg base) : FnG P w K mg base 3 "_law_draw" 3 (r_law_draw (subS ec)) := by
  obtain ⟨fd, D⟩ := F.f_law_draw
  exact fn_sound (L := 2) (g := cf N_law_draw) (k := 60) (own := ownOf []) D F.g_law_draw s_law_draw F.M (tab_cons (ok_law_mix F) (by decide) tab_nil) e_law_draw (by decide +kernel) (by decide) (by decide +kernel) (by decide) (fun _ _ _ _ _ _ us hl => match us, hl with | [_, _, _], _ => rfl)
theorem ok_law_pick (F : Facts P w K mg base) : FnG P w K mg base 4 "_law_pick" 3 (r_law_pick (subS ec)) := by
  obtain ⟨fd, D⟩ := F.f_law_pick
  exact fn_sound (L := 3) (g := cf N_law_pick) (k := 60) (own := ownOf []) D F.g_law_pick s_law_pick F.M (tab_cons (ok_law_draw F) (by decide) tab_nil) e_law_pick (by decide +kernel) (by decide) (by decide +kernel) (by decide) (fun _ _ _ _ _ _ us hl => match us, hl with | [_, _, _], _ => rfl)
theorem ok_law_refusal (F : Facts P w K mg base) : FnG P w K mg base 1 "_law_refusal" 1 (r_law_refusal (subS ec)) := by
  obtain ⟨fd, D⟩ := F.f_law_refusal
  exact fn_sound (L := 0) (g := cf N_law_refusal) (k := 60) (own := ownOf []) D F.g_law_refusal s_law_refusal F.M tab_nil e_law_refusal (by decide +kernel) (by decide) (by decide +kernel) (by decide) (fun _ _ _ _ _ _ us hl => match us, hl with | [_], _ => rfl)
theorem ok_law_named (F : Facts P w K mg base) : FnG P w K mg base 1 "_law_named" 2 (r_law_named (subS ec)) := by
  obtain ⟨fd, D⟩ := F.f_law_named
  exact fn_sound (L := 0) (g := cf N_law_named) (k := 60) (own := ownOf [(4, 1)]) D F.g_law_named s_law_named F.M tab_nil e_law_named (by decide +kernel) (by decide) (by decide +kernel) (by decide) (fun _ _ _ _ _ _ us hl => match us, hl with | [_, _], _ => rfl)
theorem ok_law_table (F : Facts P w K mg base) : FnG P w K mg base 4 "_law_table" 3 (r_law_table (subS ec)) := by
  obtain ⟨fd, D⟩ := F.f_law_table
  exact fn_sound (L := 3) (g := cf N_law_table) (k := 60) (own := ownOf [(5, 2), (7, 1), (10, 1)]) D F.g_law_table s_law_table F.M (tab_cons (ok_law_draw F) (by decide) (tab_cons (ok_law_named F) (by decide) tab_nil)) e_law_table (by decide +kernel) (by decide) (by decide +kernel) (by decide) (fun _ _ _ _ _ _ us hl => match us, hl with | [_, _, _], _ => rfl)
theorem ok_law_copy (F : Facts P w K mg base) : FnG P w K mg base 12 "_law_copy" 1 (r_law_copy (subS ec)) := by
  obtain ⟨fd, D⟩ := F.f_law_copy
  exact self_sound (L := 0) (g := cf N_law_copy) (k := 60) (own := ownOf [(1000, 7)]) D F.g_law_copy s_law_copy F.M tab_nil e_law_copy (by decide +kernel) (by decide) (by decide +kernel) (by decide) (fun _ _ _ _ _ _ us hl => match us, hl with | [_], _ => rfl) 12
theorem ok_law_spoil (F : Facts P w K mg base) : FnG P w K mg base 21 "_law_spoil" 1 (r_law_spoil (subS ec)) := by
  obtain ⟨fd, D⟩ := F.f_law_spoil
  exact spoil_sound (g := cf N_law_spoil) D F.g_law_spoil rfl s_law_spoil F.M e_law_spoil (by decide +kernel) (fun _ _ _ _ _ _ us hl => match us, hl with | [_], _ => rfl)
theorem ok_law_one (F : Facts P w K mg base) : FnG P w K mg base 10 "_law_one" 2 (r_law_one (subS ec)) := by
  obtain ⟨fd, D⟩ := F.f_law_one
  exact fn_sound (L := 9) (g := cf N_law_one) (k := 60) (own := ownOf [(1000, 7)]) D F.g_law_one s_law_one F.M (tab_cons (ok_row_for F) (by decide) (tab_cons (ok_made_rows F) (by decide) (tab_cons (ok_least_term F) (by decide) (tab_cons (ok_is_rich F) (by decide) (tab_cons (ok_held_many F) (by decide) (tab_cons (ok_first_parting F) (by decide) (tab_cons (ok_holds_more F) (by decide) tab_nil))))))) e_law_one (by decide +kernel) (by decide) (by decide +kernel) (by decide) (fun _ _ _ _ _ _ us hl => match us, hl with | [_, _], _ => rfl)
theorem ok_law_told (F : Facts P w K mg base) : FnG P w K mg base 11 "_law_told" 2 (r_law_told (subS ec)) := by
  obtain ⟨fd, D⟩ := F.f_law_told
  exact fn_sound (L := 10) (g := cf N_law_told) (k := 60) (own := ownOf [(1000, 7)]) D F.g_law_told s_law_told F.M (tab_cons (ok_law_refusal F) (by decide) (tab_cons (ok_law_one F) (by decide) tab_nil)) e_law_told (by decide +kernel) (by decide) (by decide +kernel) (by decide) (fun _ _ _ _ _ _ us hl => match us, hl with | [_, _], _ => rfl)
def lawLevel : Nat := 21
theorem tab_law (F : Facts P w K mg base) : TabOk P w K mg base 21 (Mv.tabOf (c_law (subS ec))) := (tab_cons (ok_law_pick F) (by decide) (tab_cons (ok_law_table F) (by decide) (tab_cons (ok_law_copy F) (by decide) (tab_cons (ok_law_spoil F) (by decide) (tab_cons (ok_law_told F) (by decide) tab_nil)))))
end
theorem facts {P : Program} {w : World} {K : PySem.W.Frag} {h : Heap} {mg : Str → Option Value} {base : Heap} (X : K.In h) (G : h.Ns mainGlobals mg) (c : He.SaysD fa fn K) (e : mfB fr gc ec K = true) : Facts P w K mg base where
  M := mf_of X G e
  f_look_table := c.def_ 0 (d := dd 12 "look_table") rfl
  g_look_table := He.glo_ok X G (c.fact 0 (f := .glo "look_table") rfl)
  f_is_term := c.def_ 1 (d := dd 16 "is_term") rfl
  g_is_term := He.glo_ok X G (c.fact 1 (f := .glo "is_term") rfl)
  f_letters_of := c.def_ 2 (d := dd 17 "letters_of") rfl
  g_letters_of := He.glo_ok X G (c.fact 2 (f := .glo "letters_of") rfl)
  f_worth := c.def_ 3 (d := dd 18 "worth") rfl
  g_worth := He.glo_ok X G (c.fact 3 (f := .glo "worth") rfl)
  f_term_text := c.def_ 4 (d := dd 19 "term_text") rfl
  g_term_text := He.glo_ok X G (c.fact 4 (f := .glo "term_text") rfl)
  f_all_things := c.def_ 5 (d := dd 23 "all_things") rfl
  g_all_things := He.glo_ok X G (c.fact 5 (f := .glo "all_things") rfl)
  f_look_letters := c.def_ 6 (d := dd 24 "look_letters") rfl
  g_look_letters := He.glo_ok X G (c.fact 6 (f := .glo "look_letters") rfl)
  f_worths := c.def_ 7 (d := dd 25 "worths") rfl
  g_worths := He.glo_ok X G (c.fact 7 (f := .glo "worths") rfl)
  f_row_for := c.def_ 8 (d := dd 26 "row_for") rfl
  g_row_for := He.glo_ok X G (c.fact 8 (f := .glo "row_for") rfl)
  f_look_small := c.def_ 9 (d := dd 27 "look_small") rfl
  g_look_small := He.glo_ok X G (c.fact 9 (f := .glo "look_small") rfl)
  f_both_of := c.def_ 10 (d := dd 28 "both_of") rfl
  g_both_of := He.glo_ok X G (c.fact 10 (f := .glo "both_of") rfl)
  f_least_texts := c.def_ 11 (d := dd 29 "least_texts") rfl
  g_least_texts := He.glo_ok X G (c.fact 11 (f := .glo "least_texts") rfl)
  f_made_rows := c.def_ 12 (d := dd 30 "made_rows") rfl
  g_made_rows := He.glo_ok X G (c.fact 12 (f := .glo "made_rows") rfl)
  f_least_term := c.def_ 13 (d := dd 31 "least_term") rfl
  g_least_term := He.glo_ok X G (c.fact 13 (f := .glo "least_term") rfl)
  f_is_rich := c.def_ 14 (d := dd 32 "is_rich") rfl
  g_is_rich := He.glo_ok X G (c.fact 14 (f := .glo "is_rich") rfl)
  f_all_terms := c.def_ 15 (d := dd 35 "all_terms") rfl
  g_all_terms := He.glo_ok X G (c.fact 15 (f := .glo "all_terms") rfl)
  f_look_deep := c.def_ 16 (d := dd 36 "look_deep") rfl
  g_look_deep := He.glo_ok X G (c.fact 16 (f := .glo "look_deep") rfl)
  f_groups := c.def_ 17 (d := dd 37 "groups") rfl
  g_groups := He.glo_ok X G (c.fact 17 (f := .glo "groups") rfl)
  f_held_many := c.def_ 18 (d := dd 38 "held_many") rfl
  g_held_many := He.glo_ok X G (c.fact 18 (f := .glo "held_many") rfl)
  f_first_parting := c.def_ 19 (d := dd 39 "first_parting") rfl
  g_first_parting := He.glo_ok X G (c.fact 19 (f := .glo "first_parting") rfl)
  f_holds_more := c.def_ 20 (d := dd 40 "holds_more") rfl
  g_holds_more := He.glo_ok X G (c.fact 20 (f := .glo "holds_more") rfl)
  f_law_cell := c.def_ 21 (d := dd 42 "_law_cell") rfl
  g_law_cell := He.glo_ok X G (c.fact 21 (f := .glo "_law_cell") rfl)
  f_law_mix := c.def_ 22 (d := dd 43 "_law_mix") rfl
  g_law_mix := He.glo_ok X G (c.fact 22 (f := .glo "_law_mix") rfl)
  f_law_draw := c.def_ 23 (d := dd 44 "_law_draw") rfl
  g_law_draw := He.glo_ok X G (c.fact 23 (f := .glo "_law_draw") rfl)
  f_law_pick := c.def_ 24 (d := dd 45 "_law_pick") rfl
  g_law_pick := He.glo_ok X G (c.fact 24 (f := .glo "_law_pick") rfl)
  f_law_refusal := c.def_ 25 (d := dd 46 "_law_refusal") rfl
  g_law_refusal := He.glo_ok X G (c.fact 25 (f := .glo "_law_refusal") rfl)
  f_law_named := c.def_ 27 (d := dd 48 "_law_named") rfl
  g_law_named := He.glo_ok X G (c.fact 27 (f := .glo "_law_named") rfl)
  f_law_table := c.def_ 26 (d := dd 47 "_law_table") rfl
  g_law_table := He.glo_ok X G (c.fact 26 (f := .glo "_law_table") rfl)
  f_law_copy := c.def_ 28 (d := dd 49 "_law_copy") rfl
  g_law_copy := He.glo_ok X G (c.fact 28 (f := .glo "_law_copy") rfl)
  f_law_spoil := c.def_ 29 (d := dd 50 "_law_spoil") rfl
  g_law_spoil := He.glo_ok X G (c.fact 29 (f := .glo "_law_spoil") rfl)
  f_law_one := c.def_ 30 (d := dd 51 "_law_one") rfl
  g_law_one := He.glo_ok X G (c.fact 30 (f := .glo "_law_one") rfl)
  f_law_told := c.def_ 31 (d := dd 52 "_law_told") rfl
  g_law_told := He.glo_ok X G (c.fact 31 (f := .glo "_law_told") rfl)
  f_law := c.def_ 32 (d := dd 53 "law") rfl
  g_law := He.glo_ok X G (c.fact 32 (f := .glo "law") rfl)
/-- what is left of the law: its run tells True -/
def Plain : Prop := ∀ ns : List Int, ns.length ≤ 63 → ∃ n, evB (subS ec) (Mv.tabOf (c_law (subS ec))) b_law (some (.scr ns) :: some .town :: List.replicate 19 none) 0 = .rt (.bl true) n
theorem ok_law {P : Program} {w : World} {K : PySem.W.Frag} {mg : Str → Option Value} {base : Heap} (F : Facts P w K mg base) (pl : Plain) : ∃ fd, FunD K "law" "law" (defArgs (top 53)) (defBody (top 53)) (defScope (top 53)) [] [] (He.ga K "law") fd ∧ FnOk P w K mg base CX0 (lawLevel + 1) (He.ga K "law") fd ["script"] (fun vs H Q E => ∃ (a : Addr) (ns : List Int), vs = [.ref a] ∧ ns.length ≤ 63 ∧ SqL K H a (ns.map V.int) ∧ ∀ H', Q (.bl true) H') := by
  obtain ⟨fd, D⟩ := F.f_law
  refine ⟨fd, D, ?_⟩
  exact law_sound (L := lawLevel) (g := cf N_law) (k := 60) (own := ownOf []) (b := b_law) (N' := N_law.drop 2) D rfl s_law (by decide +kernel) F.M (tab_law F) e_law (by decide +kernel) (by decide) (by decide) pl
end Ko
open PySem PySem.W PySem.Calls PyProof.Rows
theorem PySem.Challenge.cw_onerule_k52_refused_terms_holds : PySem.Challenge.rw_onerule_k52_refused_terms.Holds := by
  w_on; o_law
  refine HandSHeadRun.head_any (r := OpenLaw.row PySem.Challenge.rw_onerule_k52_refused_terms) (q := view (OpenLaw.row PySem.Challenge.rw_onerule_k52_refused_terms).prog [53]) (H := Ko.hk) (ob := Ko.ob) (M := 6000) (loose := Ko.names) (d := HandSHeadRun.topDef (OpenLaw.row PySem.Challenge.rw_onerule_k52_refused_terms).prog 53) (kwd := []) Ko.ob_eq
    (by kernel_rfl) (fun s => by kernel_rfl) Ko.run (by kernel_rfl) (by kernel_rfl) (by kernel_rfl) (by rfl) (by first | assumption | decide +kernel) (by decide +kernel) ⟨rfl, rfl, rfl, rfl, rfl, by decide +kernel⟩ ?hw ?hc
  case hw => w_witness2
  case hc =>
    refine L2.walk_ofE (l := PySem.Challenge.rw_onerule_k52_refused_terms) (n := 63) (k := Ko.lawLevel + 1) (x := "script") (CX := L2.CX0) rfl (by decide) (by kernel_rfl) ⟨rfl, by decide, by decide⟩ ?F (fun _ _ _ _ z => z)
    intro w mg fa h Y G hmg0
    obtain ⟨K, KX, c, e⟩ := Y
    have hmg : mg ("law" : PySem.Str) = some (.ref fa) := by
      have e : (HandSHeadRun.topDef (OpenLaw.row PySem.Challenge.rw_onerule_k52_refused_terms).prog 53).name = ("law" : PySem.Str) := by kernel_rfl
      rw [← e]
      exact hmg0
    have F0 : Ko.Facts (PySem.Challenge.rw_onerule_k52_refused_terms).prog w K mg h := Ko.facts KX G c e
    have ea := hmg.symm.trans F0.g_law
    cases ea
    obtain ⟨fd, D⟩ := F0.f_law
    refine ⟨K, fd, (fun vs H Q E => ∃ (a : PySem.Addr) (ns : List Int), vs = [L2.V.ref a] ∧ ns.length ≤ 63 ∧ L2.SqL K H a (ns.map L2.V.int) ∧ ∀ H', Q (.bl true) H'), KX, fun s u => L2.FunD.bindsA (ps := ["script"]) D (fun _ _ _ _ _ _ us hl => match us, hl with | [_], _ => rfl) s [u] rfl, fun H a ns hl _ hS => ⟨a, ns, rfl, hl, hS, fun _ => rfl⟩, fun base _ _ => ?_⟩
    obtain ⟨fd', D', ok⟩ := Ko.ok_law (P := (PySem.Challenge.rw_onerule_k52_refused_terms).prog) (w := w) (base := base) (Ko.facts KX G c e) Ko.plain
    have efd : fd' = fd := L2.Ms.fd_eq D' D
    rw [← efd]
    exact ok
