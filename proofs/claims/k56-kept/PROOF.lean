import PyProof.Rows.All
import Wide.All
import OpenK.AllK
import Wide.FinOn
import KE.DataEq
import KE.DataCmp
import KE.DataIsa
import KE.DataAny
import KE.DataMinMax
import KE.SortData
import KE.GoesEnum
import HandS.ForMost
import HandS.Zip
import HandS.Rev
import HandS.Walk
import HandS.TupAny
import HandS.TupMul
import HandS.Style
import HandS.TupLe
import HandS.Flow
import KE.KDictKeyed
import KE.KDictWalk
import KE.KDictSum
import HandS.DictComp
import HandS.TupSets
import PySem.Challenge.RW_schemasmoved_k56_whole_rules_kept
set_option Elab.async false
set_option linter.all false
set_option maxRecDepth 100000
/-! IpA: an intermediate language of slots, and its evaluator over plain data. -/
namespace Ip

/-- plain data; texts are lists of code points; box: the law's tape; fn: a def as a value -/
inductive D where
  | non | bl (b : Bool) | int (i : Int) | str (s : List Nat)
  | tup (xs : List D) | lst (xs : List D) | dic (kvs : List (D × D)) | set (xs : List D) | box | fn (f : Nat)
  deriving Inhabited

/-- the tape: its cells, its registers -/
abbrev T := List Int × List Int
abbrev Env := List (Option (Bool × D))
def szL : Nat := 16777216

/-! ### equality, order, truth -/
mutual
def eqD : D → D → Bool
  | .non, .non => true
  | .bl a, .bl b => a == b
  | .bl a, .int j => (if a then 1 else 0) == j
  | .int i, .bl b => i == (if b then 1 else 0)
  | .int i, .int j => i == j
  | .str x, .str y => x == y
  | .lst xs, .lst ys => eqDs xs ys
  | .tup xs, .tup ys => eqDs xs ys
  | _, _ => false
def eqDs : List D → List D → Bool
  | [], [] => true
  | x :: xs, y :: ys => eqD x y && eqDs xs ys
  | _, _ => false
end
/-- plain, of this depth at most -/
def pl : Nat → D → Bool
  | _, .non | _, .bl _ | _, .int _ | _, .str _ => true
  | n + 1, .tup xs | n + 1, .lst xs => xs.all (pl n)
  | _, _ => false
mutual
/-- the two can be compared by < -/
def alikeD : D → D → Bool
  | .non, .non => true
  | .bl _, .bl _ => true
  | .int _, .int _ => true
  | .str _, .str _ => true
  | .lst xs, .lst ys => alikeDs xs ys
  | .tup xs, .tup ys => alikeDs xs ys
  | _, _ => false
def alikeDs : List D → List D → Bool
  | x :: xs, y :: ys => alikeD x y && alikeDs xs ys
  | [], _ => true
  | _ :: _, [] => true
end
def ltN : List Nat → List Nat → Bool
  | [], [] => false
  | [], _ :: _ => true
  | _ :: _, [] => false
  | x :: xs, y :: ys => if x = y then ltN xs ys else decide (x < y)
mutual
def ltD : D → D → Bool
  | .bl a, .bl b => !a && b
  | .int i, .int j => decide (i < j)
  | .str x, .str y => ltN x y
  | .lst xs, .lst ys => ltDs xs ys
  | .tup xs, .tup ys => ltDs xs ys
  | _, _ => false
def ltDs : List D → List D → Bool
  | [], [] => false
  | [], _ :: _ => true
  | _ :: _, [] => false
  | x :: xs, y :: ys => if eqD x y then ltDs xs ys else ltD x y
end
/-! ### dicts -/
def isKey : D → Bool
  | .int _ | .str _ => true
  | _ => false
/-- what may be hashed, of this depth at most -/
def hsh : Nat → D → Bool
  | _, .non | _, .bl _ | _, .int _ | _, .str _ => true
  | n + 1, .tup xs => xs.all (hsh n)
  | _, _ => false
def isTupD : D → Bool
  | .tup _ => true
  | _ => false
def isTK (d : D) : Bool := isTupD d && hsh 8 d
/-- the keys and one more are of one kind: numbers and texts, or tuples -/
def keysOk (kvs : List (D × D)) (k : D) : Bool := (isKey k && kvs.all fun p => isKey p.1) || (isTK k && kvs.all fun p => isTK p.1)
def dGet (kvs : List (D × D)) (k : D) : Option D := (kvs.find? fun p => eqD p.1 k).map (·.2)
def dPut (kvs : List (D × D)) (k v : D) : List (D × D) := if kvs.any fun p => eqD p.1 k then kvs.map fun p => if eqD p.1 k then (p.1, v) else p else kvs ++ [(k, v)]
def dKeys (kvs : List (D × D)) : List D := kvs.map (·.1)
def isNon : D → Bool
  | .non => true
  | _ => false
def truD : D → Option Bool
  | .non => some false
  | .bl b => some b
  | .int i => some (i != 0)
  | .str s => if s.length ≤ szL then some (!s.isEmpty) else none
  | .tup xs | .lst xs => some (!xs.isEmpty)
  | _ => none

/-! ### operations -/
inductive Op where | add | sub | mul | fdiv | mod | pow
inductive Cp where | eq | ne | lt | le | gt | ge | is | isNot | in_ | notIn
def mulOk (i j : Int) : Bool := (decide (-(2 ^ 64) < i) && decide (i < 2 ^ 64)) || (decide (-(2 ^ 64) < j) && decide (j < 2 ^ 64))
def repL (k : Int) (xs : List D) : List D := (List.replicate k.toNat xs).flatten
def binD : Op → D → D → Option D
  | .add, .int i, .int j => some (.int (i + j))
  | .add, .str x, .str y => if x.length + y.length ≤ szL then some (.str (x ++ y)) else none
  | .add, .tup xs, .tup ys => if xs.length + ys.length ≤ szL then some (.tup (xs ++ ys)) else none
  | .add, .lst xs, .lst ys => if xs.length + ys.length ≤ szL then some (.lst (xs ++ ys)) else none
  | .sub, .int i, .int j => some (.int (i - j))
  | .mul, .int i, .int j => if mulOk i j then some (.int (i * j)) else none
  | .mul, .tup xs, .int k => if 1 ≤ k ∧ k ≤ 1000 ∧ xs.length ≤ 1000 then some (.tup (repL k xs)) else none
  | .mul, .lst xs, .int k => if k ≤ 1000000 ∧ -1000000 ≤ k ∧ xs.length * k.toNat ≤ szL then some (.lst (repL k xs)) else none
  | .fdiv, .int i, .int j => if 0 < j ∧ j < 1073741824 then some (.int (i / j)) else none
  | .mod, .int i, .int j => if 0 < j then some (.int (i % j)) else none
  | .pow, .int i, .int j => if 0 ≤ j ∧ j ≤ 1000 ∧ i.natAbs < 2 ^ 64 then some (.int (i ^ j.toNat)) else none
  | _, _, _ => none
def inD (x : D) : D → Option Bool
  | .lst xs | .tup xs => if pl 60 x && xs.all (pl 59) then some (xs.any fun y => eqD y x) else none
  | .str t => match x with
    | .str [c] => some (decide (c ∈ t))
    | _ => none
  | .dic kvs => if keysOk kvs x then some (dGet kvs x).isSome else none
  | _ => none
def ordOk (x y : D) : Bool := alikeD x y && !isNon x && pl 60 x && pl 60 y
def cmpD : Cp → D → D → Option Bool
  | .eq, x, y => if pl 60 x && pl 60 y then some (eqD x y) else none
  | .ne, x, y => if pl 60 x && pl 60 y then some (!eqD x y) else none
  | .lt, x, y => if ordOk x y then some (ltD x y) else none
  | .gt, x, y => if ordOk x y then some (ltD y x) else none
  | .le, x, y => if ordOk x y then some (!ltD y x) else none
  | .ge, x, y => if ordOk x y then some (!ltD x y) else none
  | .is, x, .non => some (isNon x)
  | .isNot, x, .non => some (!isNon x)
  | .is, .bl a, .bl b => some (a == b)
  | .isNot, .bl a, .bl b => some (!(a == b))
  | .in_, x, c => inD x c
  | .notIn, x, c => (inD x c).map not
  | _, _, _ => none
/-- the place that an index means -/
def ixP (n : Nat) (i : Int) : Option Nat := if 0 ≤ i then (if i < n then some i.toNat else none) else if -(n : Int) ≤ i then some (i + n).toNat else none
def subD : D → D → Option D
  | .tup xs, .int i | .lst xs, .int i => (ixP xs.length i).bind fun j => xs[j]?
  | .str s, .int i => if s.length ≤ szL then (ixP s.length i).bind fun j => (s[j]?).map fun c => .str [c] else none
  | .dic kvs, k => if keysOk kvs k then dGet kvs k else none
  | _, _ => none
/-- a slice's end -/
def sIx (n d : Nat) : Option Int → Nat
  | none => d
  | some v => if v < 0 then (v + (n : Int)).toNat else min v.toNat n
def cutL {α : Type} (xs : List α) (lo hi : Option Int) : List α := (xs.drop (sIx xs.length 0 lo)).take (sIx xs.length xs.length hi - sIx xs.length 0 lo)
def cutD : D → Option Int → Option Int → Option D
  | .tup xs, lo, hi => some (.tup (cutL xs lo hi))
  | .lst xs, lo, hi => some (.lst (cutL xs lo hi))
  | .str s, lo, hi => if s.length ≤ szL then some (.str (cutL s lo hi)) else none
  | _, _, _ => none
def revD : D → Option D
  | .tup xs => some (.tup xs.reverse)
  | .lst xs => some (.lst xs.reverse)
  | .str s => if s.length ≤ szL then some (.str s.reverse) else none
  | _ => none
def isStr : D → Bool
  | .str _ => true
  | _ => false

/-- types for isinstance -/
inductive Ty where | int | bool | str | tuple | list
def isiB : Ty → D → Bool
  | .int, .int _ => true
  | .int, .bl _ => true
  | .bool, .bl _ => true
  | .str, .str _ => true
  | .tuple, .tup _ => true
  | .list, .lst _ => true
  | _, _ => false
def isiD (t : Ty) (d : D) : Option Bool := if pl 60 d then some (isiB t d) else none

/-! ### sorting -/
def insB {α : Type} (lt : α → α → Bool) (x : α) : List α → List α
  | [] => [x]
  | y :: ys => if lt x y then x :: y :: ys else y :: insB lt x ys
/-- stable: later equal ones stand behind -/
def sortB {α : Type} (lt : α → α → Bool) (xs : List α) : List α := xs.foldl (fun acc x => insB lt x acc) []
def sortD (xs : List D) : List D := sortB ltD xs
def isTupC : D → Bool
  | .tup (_ :: _) => true
  | _ => false
def isAtom : D → Bool
  | .int _ | .str _ | .bl _ | .lst _ => true
  | _ => false
def sortable (xs : List D) : Bool := (xs.all fun x => xs.all fun y => alikeD x y) && xs.all (pl 59) && (xs.all isTupC || xs.all isAtom || (decide (xs.length ≤ 1) && xs.all fun x => !isNon x))

/-! ### builtins -/
/-- the digits of a number -/
def txtI (i : Int) : List Nat := ((toString i : String) : PySem.Str).cps.toList
inductive Bi where | len | int | str | all | any | list | tuple | sorted | sum | max | min
def intsOf : List D → Option (List Int)
  | [] => some []
  | .int i :: xs => (intsOf xs).map fun r => i :: r
  | _ => none
def blsOf : List D → Option (List Bool)
  | [] => some []
  | .bl b :: xs => (blsOf xs).map fun r => b :: r
  | _ => none
def biD : Bi → List D → Option D
  | .len, [.tup xs] | .len, [.lst xs] => some (.int xs.length)
  | .len, [.dic kvs] => some (.int kvs.length)
  | .len, [.str s] => if s.length ≤ szL then some (.int s.length) else none
  | .int, [.int i] => some (.int i)
  | .all, [.lst xs] => (blsOf xs).map fun bs => .bl (bs.all id)
  | .any, [.lst xs] => (blsOf xs).map fun bs => .bl (bs.any id)
  | .list, [.tup xs] | .list, [.lst xs] => some (.lst xs)
  | .list, [.dic kvs] => some (.lst (dKeys kvs))
  | .tuple, [.tup xs] | .tuple, [.lst xs] => some (.tup xs)
  | .sorted, [.lst xs] | .sorted, [.tup xs] => if sortable xs then some (.lst (sortD xs)) else none
  | .sorted, [.dic kvs] => if sortable (dKeys kvs) then some (.lst (sortD (dKeys kvs))) else none
  | .sum, [.lst xs] => (intsOf xs).map fun ns => .int ns.sum
  | .max, [.int i, .int j] => some (.int (if j > i then j else i))
  | .min, [.int i, .int j] => some (.int (if j < i then j else i))
  | .max, [.lst xs] | .max, [.tup xs] => (intsOf xs).bind fun ns => match ns with
    | [] => none
    | n :: r => some (.int (r.foldl max n))
  | .min, [.lst xs] | .min, [.tup xs] => (intsOf xs).bind fun ns => match ns with
    | [] => none
    | n :: r => some (.int (r.foldl min n))
  | .str, [.int i] => if i.natAbs.log2 < 1920 then some (.str (txtI i)) else none
  | _, _ => none

/-! ### what a loop walks -/
inductive Ik where | seq | rng | zip | enum
def rngL (lo : Int) (n : Nat) : List D := (List.range n).map fun (i : Nat) => .int (lo + (i : Int))
def rngCL (lo c : Int) (n : Nat) : List D := (List.range n).map fun (i : Nat) => .int (lo + (i : Int) * c)
def seqD : D → Option (List D)
  | .tup xs | .lst xs => some xs
  | _ => none
def itD : Ik → List D → Option (List D)
  | .seq, [.str s] => if s.length ≤ szL then some (s.map fun c => .str [c]) else none
  | .seq, [.dic kvs] => some (dKeys kvs)
  | .seq, [d] => seqD d
  | .rng, [.int j] => if j ≤ (szL : Int) ∧ -1000000 ≤ j then some (rngL 0 j.toNat) else none
  | .rng, [.int i, .int j] => if j - i ≤ (szL : Int) ∧ i.natAbs ≤ 2 ^ 61 ∧ j.natAbs ≤ 2 ^ 61 then some (rngL i (j - i).toNat) else none
  | .rng, [.int i, .int j, .int c] => if c = -1 ∧ i - j ≤ (szL : Int) ∧ i.natAbs ≤ 2 ^ 61 ∧ j.natAbs ≤ 2 ^ 61 then some (rngCL i (-1) (i - j).toNat) else none
  | .zip, [.lst xs, .lst ys] | .zip, [.tup xs, .tup ys] => some (List.zipWith (fun x y => .tup [x, y]) xs ys)
  | .enum, [.lst xs] | .enum, [.tup xs] => some (xs.zipIdx.map fun p => .tup [.int (p.2 : Nat), p.1])
  | _, _ => none

/-! ### methods that only read -/
/-- numbers, texts, and tuples of such, of this depth at most -/
def cano : Nat → D → Bool
  | _, .int _ | _, .str _ => true
  | n + 1, .tup xs => xs.all (cano n)
  | _, _ => false
def isCT (d : D) : Bool := isTupD d && cano 8 d
/-- each one once, as first met -/
def dedupD (xs : List D) : List D := xs.foldl (fun acc x => if acc.any fun y => eqD y x then acc else acc ++ [x]) []
inductive Me where | get | index | count | sset
def meD : Me → D → List D → Option D
  | .get, .dic kvs, [k] => if keysOk kvs k then some ((dGet kvs k).getD .non) else none
  | .get, .dic kvs, [k, x] => if keysOk kvs k then some ((dGet kvs k).getD x) else none
  | .sset, .lst xs, [] => if xs.all isCT && sortable (dedupD xs) && decide ((dedupD xs).length < 64) then some (.lst (sortD (dedupD xs))) else none
  | _, _, _ => none

/-! ### the language -/
inductive Tg where
  | nm (i : Nat)
  | tp (ts : List Tg)
inductive E where
  | bad
  | loc (i : Nat)
  | con (d : D)
  | glo (d : D)
  | bin (o : Op) (a b : E)
  | neg (a : E)
  | not_ (a : E)
  | and_ (a b : E)
  | or_ (a b : E)
  | ite (c a b : E)
  | cmp (o : Cp) (a b : E)
  | chain (o p : Cp) (a b c : E)
  | tup (es : List E)
  | lst (es : List E)
  | call (f : Nat) (es : List E)
  | bi (b : Bi) (es : List E)
  | isi (t : Ty) (a : E)
  | me (m : Me) (a : E) (es : List E)
  | sub (a i : E)
  | sli (a : E) (lo hi : Option E)
  | rev (a : E)
  | lc (own : List Nat) (t : Tg) (k : Ik) (es cs : List E) (e : E)
  | dct (kvs : List E)
  | dc (own : List Nat) (t : Tg) (k : Ik) (es cs : List E) (ek e : E)
inductive S where
  | bad
  | fz (is : List Nat) (s : S)
  | set (i : Nat) (w : Bool) (e : E)
  | par (is : List (Nat × Bool)) (es : List E)
  | tgt (ts : List Tg) (e : E)
  | aug (i : Nat) (o : Op) (e : E)
  | app (i : Nat) (e : E)
  | ext (i : Nat) (e : E)
  | pop (t : Option Tg) (i : Nat) (e : Option E)
  | sti (i : Nat) (k v : E)
  | dput (i : Nat) (k v : E)
  | exp (e : E)
  | ret (e : E)
  | ife (c : E) (a b : List S)
  | for_ (t : Tg) (k : Ik) (es : List E) (b : List S)
  | whl (c : E) (b : List S)
  | brk | cnt | pas

/-! ### the evaluator -/
/-- calls -/
structure Gl where
  cl : Nat → List D → T → Option (D × T)
/-- as a value (kept, handed on), as an operand (read and forgotten), as a test -/
structure Ev where
  v : T → Option (D × T)
  o : T → Option (D × T)
  t : T → Option (Bool × T)
def mk (f : T → Option (D × T)) : Ev := ⟨f, f, fun s => (f s).bind fun p => (truD p.1).map fun b => (b, p.2)⟩
def evL (r : Env) (i : Nat) : Option D := match r[i]? with
  | some (some p) => some p.2
  | _ => none
def evV (r : Env) (i : Nat) : Option D := match r[i]? with
  | some (some (false, d)) => some d
  | _ => none
def wipeE (r : Env) : List Nat → Env
  | [] => r
  | v :: vs => (wipeE r vs).set v none
mutual
def bindT : Tg → D → Env → Option Env
  | .nm i, d, r => some (r.set i (some (false, d)))
  | .tp ts, .tup ds, r => bindTs ts ds r
  | .tp _, _, _ => none
def bindTs : List Tg → List D → Env → Option Env
  | [], [], r => some r
  | t :: ts, d :: ds, r => (bindT t d r).bind fun r' => bindTs ts ds r'
  | _, _, _ => none
end
/-- pairs put into a dict, one behind the other -/
def dPuts : List (D × D) → List (D × D) → Option (List (D × D))
  | acc, [] => some acc
  | acc, (k, v) :: r => if keysOk acc k && decide (acc.length < szL) then dPuts (dPut acc k v) r else none
/-- keys and values in turn -/
def pairUp : List D → Option (List (D × D))
  | [] => some []
  | k :: v :: r => (pairUp r).map fun q => (k, v) :: q
  | _ => none
def pairD : D → Option (D × D)
  | .tup [k, v] => some (k, v)
  | _ => none
/-- a dict comprehension's turns -/
def dcF (f : D → T → Option (Option (D × D) × T)) : List D → List (D × D) → T → Option (List (D × D) × T)
  | [], acc, s => some (acc, s)
  | x :: xs, acc, s => (f x s).bind fun p => match p.1 with
    | some kv => if isKey kv.1 && decide (acc.length < szL) then dcF f xs (dPut acc kv.1 kv.2) p.2 else none
    | none => dcF f xs acc p.2
/-- a comprehension's turns -/
def lcF (f : D → T → Option (Option D × T)) : List D → T → Option (List D × T)
  | [], s => some ([], s)
  | x :: xs, s => (f x s).bind fun p => (lcF f xs p.2).map fun q => (match p.1 with
    | some d => d :: q.1
    | none => q.1, q.2)
def intO : Option (D × T) → Option (Int × T)
  | some (.int i, s) => some (i, s)
  | _ => none
mutual
def ev (G : Gl) : E → Env → Ev
  | .bad, _ => mk fun _ => none
  | .loc i, r => ⟨fun s => (evV r i).map fun d => (d, s), fun s => (evL r i).map fun d => (d, s), fun s => (evL r i).bind fun d => (truD d).map fun b => (b, s)⟩
  | .con d, _ => mk fun s => some (d, s)
  | .glo d, _ => mk fun s => some (d, s)
  | .bin o a b, r => mk fun s => ((ev G a r).o s).bind fun p => ((ev G b r).o p.2).bind fun q => (binD o p.1 q.1).map fun d => (d, q.2)
  | .neg a, r => mk fun s => (intO ((ev G a r).o s)).map fun p => (.int (-p.1), p.2)
  | .not_ a, r => ⟨fun s => ((ev G a r).o s).bind fun p => (truD p.1).map fun b => (.bl (!b), p.2), fun s => ((ev G a r).o s).bind fun p => (truD p.1).map fun b => (.bl (!b), p.2),
      fun s => ((ev G a r).t s).map fun p => (!p.1, p.2)⟩
  | .and_ a b, r => ⟨fun s => ((ev G a r).v s).bind fun p => (truD p.1).bind fun k => if k then (ev G b r).v p.2 else some p, fun s => ((ev G a r).v s).bind fun p => (truD p.1).bind fun k => if k then (ev G b r).v p.2 else some p,
      fun s => ((ev G a r).t s).bind fun p => if p.1 then (ev G b r).t p.2 else some (false, p.2)⟩
  | .or_ a b, r => ⟨fun s => ((ev G a r).v s).bind fun p => (truD p.1).bind fun k => if k then some p else (ev G b r).v p.2, fun s => ((ev G a r).v s).bind fun p => (truD p.1).bind fun k => if k then some p else (ev G b r).v p.2,
      fun s => ((ev G a r).t s).bind fun p => if p.1 then some (true, p.2) else (ev G b r).t p.2⟩
  | .ite c a b, r => ⟨fun s => ((ev G c r).t s).bind fun p => if p.1 then (ev G a r).v p.2 else (ev G b r).v p.2, fun s => ((ev G c r).t s).bind fun p => if p.1 then (ev G a r).v p.2 else (ev G b r).v p.2,
      fun s => ((ev G c r).t s).bind fun p => if p.1 then (ev G a r).t p.2 else (ev G b r).t p.2⟩
  | .cmp o a b, r => mk fun s => ((ev G a r).o s).bind fun p => ((ev G b r).o p.2).bind fun q => (cmpD o p.1 q.1).map fun k => (.bl k, q.2)
  | .chain o o' a b c, r => mk fun s => ((ev G a r).o s).bind fun p => ((ev G b r).o p.2).bind fun q => (cmpD o p.1 q.1).bind fun k =>
      if k then ((ev G c r).o q.2).bind fun u => (cmpD o' q.1 u.1).map fun k' => (.bl k', u.2) else some (.bl false, q.2)
  | .tup es, r => mk fun s => (evs G es r s).map fun p => (.tup p.1, p.2)
  | .lst es, r => mk fun s => (evs G es r s).map fun p => (.lst p.1, p.2)
  | .call f es, r => mk fun s => (evs G es r s).bind fun p => G.cl f p.1 p.2
  | .bi b es, r => mk fun s => (evos G es r s).bind fun p => (biD b p.1).map fun d => (d, p.2)
  | .isi t a, r => mk fun s => ((ev G a r).o s).bind fun p => (isiD t p.1).map fun b => (.bl b, p.2)
  | .me m a es, r => mk fun s => ((ev G a r).o s).bind fun p => (evs G es r p.2).bind fun q => (meD m p.1 q.1).map fun d => (d, q.2)
  | .sub a i, r => mk fun s => ((ev G a r).o s).bind fun p => ((ev G i r).o p.2).bind fun q => (subD p.1 q.1).map fun d => (d, q.2)
  | .sli a lo hi, r => mk fun s => ((ev G a r).o s).bind fun p => (evo? G lo r p.2).bind fun l => (evo? G hi r l.2).bind fun h => (cutD p.1 l.1 h.1).map fun d => (d, h.2)
  | .rev a, r => mk fun s => ((ev G a r).o s).bind fun p => if isStr p.1 then none else (revD p.1).map fun d => (d, p.2)
  | .lc own t k es cs e, r => mk fun s => (evos G es r s).bind fun p => (itD k p.1).bind fun xs =>
      (lcF (fun x s => (bindT t x (wipeE r own)).bind fun r' => (evts G cs r' s).bind fun q => if q.1 then ((ev G e r').v q.2).map fun u => (some u.1, u.2) else some (none, q.2)) xs p.2).map fun q => (.lst q.1, q.2)
  | .dct es, r => mk fun s => (evs G es r s).bind fun p => (pairUp p.1).bind fun ps => (dPuts [] ps).map fun kvs => (.dic kvs, p.2)
  | .dc own t k es cs ek e, r => mk fun s => (evos G es r s).bind fun p => (itD k p.1).bind fun xs =>
      (dcF (fun x s => (bindT t x (wipeE r own)).bind fun r' => (evts G cs r' s).bind fun q => if q.1 then ((ev G ek r').v q.2).bind fun u => ((ev G e r').v u.2).map fun w => (some (u.1, w.1), w.2) else some (none, q.2)) xs [] p.2).map fun q => (.dic q.1, q.2)
def evs (G : Gl) : List E → Env → T → Option (List D × T)
  | [], _, s => some ([], s)
  | e :: es, r, s => ((ev G e r).v s).bind fun p => (evs G es r p.2).map fun q => (p.1 :: q.1, q.2)
def evos (G : Gl) : List E → Env → T → Option (List D × T)
  | [], _, s => some ([], s)
  | e :: es, r, s => ((ev G e r).o s).bind fun p => (evos G es r p.2).map fun q => (p.1 :: q.1, q.2)
def evts (G : Gl) : List E → Env → T → Option (Bool × T)
  | [], _, s => some (true, s)
  | e :: es, r, s => ((ev G e r).t s).bind fun p => if p.1 then evts G es r p.2 else some (false, p.2)
def evo? (G : Gl) : Option E → Env → T → Option (Option Int × T)
  | none, _, s => some (none, s)
  | some e, r, s => (intO ((ev G e r).o s)).map fun p => (some p.1, p.2)
end

/-! ### statements -/
inductive R where
  | nx (r : Env) (s : T) | rt (d : D) (s : T) | bk (r : Env) (s : T) | ct (r : Env) (s : T)
def frz : List Nat → Env → Env
  | [], r => r
  | i :: is, r => match r[i]? with
    | some (some (true, d)) => frz is (r.set i (some (false, d)))
    | _ => frz is r
/-- only objects that may change are held as one's own -/
def isMut : D → Bool
  | .lst _ | .dic _ | .set _ => true
  | _ => false
def setO (r : Env) (i : Nat) (w : Bool) (d : D) : Env := r.set i (some (w && isMut d, d))
def setOs : List (Nat × Bool) → List D → Env → Option Env
  | [], [], r => some r
  | (i, w) :: is, d :: ds, r => setOs is ds (setO r i w d)
  | _, _, _ => none
def bindAll : List Tg → D → Env → Option Env
  | [], _, r => some r
  | t :: ts, d, r => (bindT t d r).bind fun r' => bindAll ts d r'
/-- the list of one's own at slot i -/
def ownL (r : Env) (i : Nat) : Option (List D) := match r[i]? with
  | some (some (true, .lst xs)) => some xs
  | _ => none
def ownD (r : Env) (i : Nat) : Option (List (D × D)) := match r[i]? with
  | some (some (true, .dic kvs)) => some kvs
  | _ => none
def seqR (a : Option R) (f : Env → T → Option R) : Option R := a.bind fun x => match x with
  | .nx r s => f r s
  | x => some x
def forF (f : D → Env → T → Option R) : List D → Env → T → Option R
  | [], r, s => some (.nx r s)
  | x :: xs, r, s => (f x r s).bind fun y => match y with
    | .nx r s => forF f xs r s
    | .ct r s => forF f xs r s
    | .bk r s => some (.nx r s)
    | .rt d s => some (.rt d s)
def whF (f : Env → T → Option (Bool × R)) : Nat → Env → T → Option R
  | 0, _, _ => none
  | n + 1, r, s => (f r s).bind fun y => if y.1 then (match y.2 with
    | .nx r s => whF f n r s
    | .ct r s => whF f n r s
    | .bk r s => some (.nx r s)
    | .rt d s => some (.rt d s)) else some y.2
mutual
def ex (G : Gl) (wn : Nat) : S → Env → T → Option R
  | .bad, _, _ => none
  | .fz is x, r, s => ex G wn x (frz is r) s
  | .set i w e, r, s => ((ev G e r).v s).map fun p => .nx (setO r i w p.1) p.2
  | .par is es, r, s => (evs G es r s).bind fun p => (setOs is p.1 r).map fun r' => .nx r' p.2
  | .tgt ts e, r, s => ((ev G e r).v s).bind fun p => (bindAll ts p.1 r).map fun r' => .nx r' p.2
  | .aug i o e, r, s => (evV r i).bind fun x => ((ev G e r).o s).bind fun p => (binD o x p.1).bind fun d => match d with
    | .int k => some (.nx (r.set i (some (false, .int k))) p.2)
    | _ => none
  | .app i e, r, s => ((ev G e r).v s).bind fun p => (ownL r i).bind fun xs => if xs.length < szL then some (.nx (r.set i (some (true, .lst (xs ++ [p.1])))) p.2) else none
  | .ext i e, r, s => ((ev G e r).v s).bind fun p => (ownL r i).bind fun xs => match p.1 with
    | .lst ys | .tup ys => if xs.length + ys.length ≤ szL then some (.nx (r.set i (some (true, .lst (xs ++ ys)))) p.2) else none
    | _ => none
  | .pop t i e, r, s => (evo? G e r s).bind fun p => (ownL r i).bind fun xs => (ixP xs.length (p.1.getD (-1))).bind fun j => (xs[j]?).bind fun d =>
      let r' := r.set i (some (true, .lst (xs.eraseIdx j)))
      match t with
      | none => some (.nx r' p.2)
      | some t => (bindT t d r').map fun r'' => .nx r'' p.2
  | .sti i k v, r, s => ((ev G v r).v s).bind fun p => (intO ((ev G k r).o p.2)).bind fun q => (ownL r i).bind fun xs => (ixP xs.length q.1).map fun j => .nx (r.set i (some (true, .lst (xs.set j p.1)))) q.2
  | .dput i k v, r, s => ((ev G v r).v s).bind fun p => ((ev G k r).v p.2).bind fun q => (ownD r i).bind fun kvs => if keysOk kvs q.1 && decide (kvs.length < szL) then some (.nx (r.set i (some (true, .dic (dPut kvs q.1 p.1)))) q.2) else none
  | .exp e, r, s => ((ev G e r).v s).map fun p => .nx r p.2
  | .ret e, r, s => ((ev G e r).v s).map fun p => .rt p.1 p.2
  | .ife c a b, r, s => ((ev G c r).t s).bind fun p => if p.1 then exs G wn a r p.2 else exs G wn b r p.2
  | .for_ t k es b, r, s => (evs G es r s).bind fun p => (itD k p.1).bind fun xs => forF (fun x r s => (bindT t x r).bind fun r' => exs G wn b r' s) xs r p.2
  | .whl c b, r, s => whF (fun r s => ((ev G c r).t s).bind fun p => if p.1 then (exs G wn b r p.2).map fun x => (true, x) else some (false, .nx r p.2)) wn r s
  | .brk, r, s => some (.bk r s)
  | .cnt, r, s => some (.ct r s)
  | .pas, r, s => some (.nx r s)
def exs (G : Gl) (wn : Nat) : List S → Env → T → Option R
  | [], r, s => some (.nx r s)
  | x :: xs, r, s => seqR (ex G wn x r s) fun r s => exs G wn xs r s
end

/-! ### defs -/
structure Df where
  np : Nat
  nl : Nat
  body : List S
def out : Option R → Option (D × T)
  | some (.rt d s) => some (d, s)
  | some (.nx _ s) => some (.non, s)
  | _ => none
/-- a call at level k; pr: what is not run here but given -/
def run (pr : Nat → Option (List D → T → Option (D × T))) (ds : Nat → Option Df) (wn : Nat) : Nat → Nat → List D → T → Option (D × T)
  | 0, _, _, _ => none
  | k + 1, f, as, s => match pr f with
    | some p => p as s
    | none => (ds f).bind fun d => if as.length = d.np then out (exs ⟨run pr ds wn k⟩ wn d.body (as.map (fun x => some (false, x)) ++ List.replicate d.nl none) s) else none

/-! ### the tape's draws -/
def loadE (cells : List Int) (b : Int) : Int × List Int × Int :=
  let f := (b * 48271 + 17) % 2147483629
  let g := (f * 69621 + 5) % 2147483587
  let h := (g * 40692 + 3) % 2147483563
  (f * 4611686014132420609 + g * 2147483647 + h, cells, h)
def sizeC (c : Int) : Int := if 0 ≤ c then 2 * c else -2 * c - 1
def loadD : List Int → Int → Int × List Int × Int
  | [], b => loadE [] b
  | c :: r, b => if 1000000000000000000 ≤ sizeC c then (sizeC c, r, b) else loadE r ((b * 69621 + sizeC c * 48271 + 11) % 2147483647)
/-- a draw of one of m digits -/
def drD (s : T) (m : Int) : Option (Int × T) := match s.2 with
  | [b1, b2] => if 0 < m ∧ m < 1073741824 then
      (if b1 < m then (let l := loadD s.1 b2; some (l.1 % m, (l.2.1, [l.1 / m, l.2.2]))) else some (b1 % m, (s.1, [b1 / m, b2]))) else none
  | _ => none

/-- the tape's draw as one of the table's givens -/
def pDraw : List D → T → Option (D × T)
  | [.box, .int m], s => (drD s m).map fun p => (.int p.1, p.2)
  | _, _ => none
/-- pr: what is given, ds: what is run; by number -/
structure Tb where
  pr : Nat → Option (List D → T → Option (D × T))
  ds : Nat → Option Df
  ft : PySem.Str → Option (Nat × Nat)
  wn : Nat
abbrev Tb.at (B : Tb) (k : Nat) : Gl := ⟨run B.pr B.ds B.wn k⟩
def env0 (n i : Nat) : Env := (List.replicate n none).set i (some (false, .box))
end Ip

/-! IpB: how data stands in the layer's heap. -/
namespace Ip
open PySem PySem.Spec PyProof.Rows L2

/-! ### data as the library's data -/
mutual
def D.py : D → PyData
  | .non => .none | .bl b => .bool b | .int i => .int i | .str s => .str ⟨s.toArray⟩
  | .tup xs => .tuple (pys xs)
  | .lst xs => .list (pys xs)
  | .dic _ | .set _ | .box | .fn _ => .none
def pys : List D → List PyData
  | [] => []
  | x :: xs => x.py :: pys xs
end
theorem pys_map : ∀ xs : List D, pys xs = xs.map D.py
  | [] => rfl
  | x :: xs => by rw [pys, pys_map xs, List.map_cons]
theorem str_inj {s t : List Nat} : ((⟨s.toArray⟩ : Str) == ⟨t.toArray⟩) = (s == t) := by
  rw [Bool.eq_iff_iff]
  simp
mutual
theorem eqD_py : ∀ (n : Nat) (x y : D), pl n x = true → pl n y = true → PyData.eqv x.py y.py = eqD x y
  | n, x, y, hx, hy => by
    cases x with
    | tup xs =>
      cases n with
      | zero => simp [pl] at hx
      | succ n =>
        cases y with
        | tup ys =>
          simp only [pl] at hx hy
          simp only [D.py, PyData.eqv, eqD]
          exact eqDs_py n xs ys hx hy
        | lst ys => simp [D.py, PyData.eqv, eqD]
        | _ => simp_all [D.py, PyData.eqv, eqD, pl]
    | lst xs =>
      cases n with
      | zero => simp [pl] at hx
      | succ n =>
        cases y with
        | lst ys =>
          simp only [pl] at hx hy
          simp only [D.py, PyData.eqv, eqD]
          exact eqDs_py n xs ys hx hy
        | tup ys => simp [D.py, PyData.eqv, eqD]
        | _ => simp_all [D.py, PyData.eqv, eqD, pl]
    | str s => cases y <;> simp_all [D.py, PyData.eqv, eqD, pl, str_inj]
    | non => cases y <;> simp_all [D.py, PyData.eqv, eqD, pl]
    | bl a => cases y <;> simp_all [D.py, PyData.eqv, eqD, pl]
    | int a => cases y <;> simp_all [D.py, PyData.eqv, eqD, pl]
    | dic _ => simp [pl] at hx
    | set _ => simp [pl] at hx
    | box => simp [pl] at hx
    | fn _ => simp [pl] at hx
theorem eqDs_py : ∀ (n : Nat) (xs ys : List D), xs.all (pl n) = true → ys.all (pl n) = true → PyData.eqvAll (pys xs) (pys ys) = eqDs xs ys
  | _, [], [], _, _ => by simp [pys, PyData.eqvAll, eqDs]
  | _, [], _ :: _, _, _ => by simp [pys, PyData.eqvAll, eqDs]
  | _, _ :: _, [], _, _ => by simp [pys, PyData.eqvAll, eqDs]
  | n, x :: xs, y :: ys, hx, hy => by
    simp only [List.all_cons, Bool.and_eq_true] at hx hy
    simp only [pys, PyData.eqvAll, eqDs]
    rw [eqD_py n x y hx.1 hy.1, eqDs_py n xs ys hx.2 hy.2]
end
theorem pl_mono : ∀ (n m : Nat) (x : D), n ≤ m → pl n x = true → pl m x = true
  | n, m, x, hm, hx => by
    cases x with
    | tup xs =>
      cases n with
      | zero => simp [pl] at hx
      | succ n =>
        cases m with
        | zero => omega
        | succ m =>
          simp only [pl, List.all_eq_true] at hx ⊢
          exact fun y hy => pl_mono n m y (by omega) (hx y hy)
    | lst xs =>
      cases n with
      | zero => simp [pl] at hx
      | succ n =>
        cases m with
        | zero => omega
        | succ m =>
          simp only [pl, List.all_eq_true] at hx ⊢
          exact fun y hy => pl_mono n m y (by omega) (hx y hy)
    | _ => simp_all [pl]
mutual
theorem pl_plain : ∀ (n : Nat) (x : D), pl n x = true → x.py.plain = true ∧ x.py.depth ≤ n
  | n, x, h => by
    cases x with
    | tup xs =>
      cases n with
      | zero => simp [pl] at h
      | succ n =>
        simp only [pl] at h
        obtain ⟨h1, h2⟩ := pls_plain n xs h
        simp only [D.py, PyData.plain, PyData.depth]
        exact ⟨h1, by omega⟩
    | lst xs =>
      cases n with
      | zero => simp [pl] at h
      | succ n =>
        simp only [pl] at h
        obtain ⟨h1, h2⟩ := pls_plain n xs h
        simp only [D.py, PyData.plain, PyData.depth]
        exact ⟨h1, by omega⟩
    | _ => simp_all [D.py, PyData.plain, PyData.depth, pl]
theorem pls_plain : ∀ (n : Nat) (xs : List D), xs.all (pl n) = true → PyData.plainAll (pys xs) = true ∧ PyData.depthAll (pys xs) ≤ n
  | _, [], _ => by simp [pys, PyData.plainAll, PyData.depthAll]
  | n, x :: xs, h => by
    simp only [List.all_cons, Bool.and_eq_true] at h
    obtain ⟨a1, a2⟩ := pl_plain n x h.1
    obtain ⟨b1, b2⟩ := pls_plain n xs h.2
    simp only [pys, PyData.plainAll, PyData.depthAll, Bool.and_eq_true]
    exact ⟨⟨a1, b1⟩, by omega⟩
end
mutual
theorem alike_py : ∀ x y : D, alikeD x y = true → PySem.W.alike x.py y.py = true
  | .non, y, h => by cases y <;> simp_all [alikeD, D.py, PySem.W.alike]
  | .bl _, y, h => by cases y <;> simp_all [alikeD, D.py, PySem.W.alike]
  | .int _, y, h => by cases y <;> simp_all [alikeD, D.py, PySem.W.alike]
  | .str _, y, h => by cases y <;> simp_all [alikeD, D.py, PySem.W.alike]
  | .lst xs, y, h => by
    cases y with
    | lst ys =>
      simp only [alikeD] at h
      simp only [D.py, PySem.W.alike]
      exact alikes_py xs ys h
    | _ => simp_all [alikeD]
  | .tup xs, y, h => by
    cases y with
    | tup ys =>
      simp only [alikeD] at h
      simp only [D.py, PySem.W.alike]
      exact alikes_py xs ys h
    | _ => simp_all [alikeD]
  | .dic _, y, h => by cases y <;> simp_all [alikeD]
  | .set _, y, h => by cases y <;> simp_all [alikeD]
  | .box, y, h => by cases y <;> simp_all [alikeD]
  | .fn _, y, h => by cases y <;> simp_all [alikeD]
theorem alikes_py : ∀ xs ys : List D, alikeDs xs ys = true → PySem.W.alikeAll (pys xs) (pys ys) = true
  | [], _, _ => by simp [pys, PySem.W.alikeAll]
  | _ :: _, [], _ => by simp [pys, PySem.W.alikeAll]
  | x :: xs, y :: ys, h => by
    simp only [alikeDs, Bool.and_eq_true] at h
    simp only [pys, PySem.W.alikeAll, Bool.and_eq_true]
    exact ⟨alike_py x y h.1, alikes_py xs ys h.2⟩
end
theorem ltN_lt : ∀ x y : List Nat, ltN x y = decide (x < y)
  | [], [] => by simp [ltN]
  | [], _ :: _ => by simp [ltN]
  | _ :: _, [] => by simp [ltN]
  | x :: xs, y :: ys => by
    rw [ltN]
    by_cases h : x = y
    · subst h
      rw [if_pos rfl, ltN_lt xs ys]
      simp
    · rw [if_neg h]
      simp [List.cons_lt_cons_iff, h]
mutual
theorem ltD_py : ∀ (n : Nat) (x y : D), pl n x = true → pl n y = true → alikeD x y = true → PySem.W.dataLt x.py y.py = ltD x y
  | n, x, y, hx, hy, h => by
    cases x with
    | non => cases y <;> simp_all [alikeD, D.py, PySem.W.dataLt, PySem.W.keyToks, ltD, PyProof.Rows.lexLt]
    | bl a =>
      cases y with
      | bl b => cases a <;> cases b <;> simp [D.py, PySem.W.dataLt_bool, ltD, b2i]
      | _ => simp_all [alikeD]
    | int a =>
      cases y with
      | int b => simp only [D.py, PySem.W.dataLt_int, ltD]
      | _ => simp_all [alikeD]
    | str a =>
      cases y with
      | str b => simp only [D.py, PySem.W.dataLt_str, ltD, ltN_lt]
      | _ => simp_all [alikeD]
    | lst xs =>
      cases n with
      | zero => simp [pl] at hx
      | succ n =>
        cases y with
        | lst ys =>
          simp only [pl] at hx hy
          simp only [alikeD] at h
          show PyProof.Rows.lexLt _ _ _ = _
          simp only [D.py, PySem.W.keyToks, ltD]
          exact ltDs_py n xs ys hx hy h
        | _ => simp_all [alikeD]
    | tup xs =>
      cases n with
      | zero => simp [pl] at hx
      | succ n =>
        cases y with
        | tup ys =>
          simp only [pl] at hx hy
          simp only [alikeD] at h
          show PyProof.Rows.lexLt _ _ _ = _
          simp only [D.py, PySem.W.keyToks, ltD]
          exact ltDs_py n xs ys hx hy h
        | _ => simp_all [alikeD]
    | dic _ => simp [pl] at hx
    | set _ => simp [pl] at hx
    | box => simp [pl] at hx
    | fn _ => simp [pl] at hx
theorem ltDs_py : ∀ (n : Nat) (xs ys : List D), xs.all (pl n) = true → ys.all (pl n) = true → alikeDs xs ys = true →
    PyProof.Rows.lexLt PyProof.Rows.itemOrd (PySem.W.keyToksAll (pys xs)) (PySem.W.keyToksAll (pys ys)) = ltDs xs ys
  | _, [], [], _, _, _ => by simp [pys, ltDs, PyProof.Rows.lex_irrefl]
  | _, [], y :: ys, _, _, _ => by
    simp only [pys, PySem.W.toks_all_cons, ltDs]
    simp only [PySem.W.keyToksAll]
    rw [PyProof.Rows.lex_diff (O := PyProof.Rows.itemOrd) (by simp)]
    simp [PyProof.Rows.itemLt]
  | _, x :: xs, [], _, _, _ => by
    simp only [pys, PySem.W.toks_all_cons, ltDs]
    simp only [PySem.W.keyToksAll]
    rw [PyProof.Rows.lex_diff (O := PyProof.Rows.itemOrd) (by simp)]
    simp [PyProof.Rows.itemLt]
  | n, x :: xs, y :: ys, hx, hy, h => by
    simp only [List.all_cons, Bool.and_eq_true] at hx hy
    simp only [alikeDs, Bool.and_eq_true] at h
    simp only [pys]
    rw [PySem.W.dataLt_cons (alike_py x y h.1), eqD_py n x y hx.1 hy.1, ltD_py n x y hx.1 hy.1 h.1, ltDs_py n xs ys hx.2 hy.2 h.2, ltDs]
end

/-! ### keys of dicts -/
mutual
def nkD : D → NestedKey
  | .non => .none | .bl b => .num (if b = true then 1 else 0) | .int i => .num i | .str s => .text ⟨s.toArray⟩
  | .tup ds => .tup (nkDs ds)
  | _ => .none
def nkDs : List D → List NestedKey
  | [] => []
  | d :: ds => nkD d :: nkDs ds
end
/-- this very object -/
def pin (a : Addr) (o : Obj) : HO := .ext fun h => h.get? a = some o
/-- a dict with numbers and texts as keys -/
def DLf (P : Program) (w : World) (o : Obj) (es : List (Key × V)) : Prop :=
  ∃ (arr : Array DictEntry) (ep : Nat) (vs : List (Key × Value)), o.ExactDict ∧ o.data = .dict arr ep ∧ KeysOf (mixKind P w) arr ∧ Pairs (mixKind P w) arr.toList vs ∧ (vs.map (·.1)).Nodup ∧ KV es vs
/-- a dict with tuples as keys -/
def DTp (P : Program) (w : World) (o : Obj) (es : List (NestedKey × Addr × V)) : Prop :=
  ∃ (arr : Array DictEntry) (ep : Nat) (ys : List (NestedKey × Addr × Value)), o.ExactDict ∧ o.data = .dict arr ep ∧ arr.toList = ys.map (entryOfKey (nestedKind P w)) ∧ (ys.map (·.1)).Nodup ∧ Paired (fun p q => p.1 = q.1 ∧ p.2.1 = q.2.1 ∧ RelV p.2.2 q.2.2) es ys
/-- the dict o has these keys and values; ks: what its keys are -/
def DO (P : Program) (w : World) (a : Addr) (o : Obj) (ks : List NestedKey) (us : List (V × V)) : Prop :=
  (a == sysModules) = false ∧ us.length ≤ sizeLine ∧
    ((∃ es : List (Key × V), us = es.map (fun e => (kV e.1, e.2)) ∧ DLf P w o es) ∨
     (∃ es : List (NestedKey × Addr × V), us = es.map (fun e => (.ref e.2.1, e.2.2)) ∧ es.map (·.1) = ks ∧ DTp P w o es))

/-! ### how data stands in the abstract heap -/
/-- the world of one def's run: the written part, the tape's list and its cells, the entry's heap and what was frozen then -/
structure Wd where
  P : Program
  w : World
  K : PySem.W.Frag
  ba : Addr
  ca : Addr
  H0 : Hp
  F0 : Addr → Prop
/-- a tuple of the written part -/
def KTup (K : PySem.W.Frag) (a : Addr) (xs : List V) : Prop :=
  ∃ (o : Obj) (its : Array Value) (n : Nat), K.lookup a = some o ∧ o.cls = .type "tuple" ∧ o.data = .seq its n ∧ its.size ≤ sizeLine ∧ Vals xs its.toList
mutual
/-- d stands at v, for good: F are the addresses that nothing will change -/
def Rep (W : Wd) (F : Addr → Prop) (H : Hp) : D → V → Prop
  | .non, v => v = .non
  | .bl b, v => v = .bl b
  | .int i, v => v = .int i
  | .str s, v => v = .str ⟨s.toArray⟩
  | .tup ds, v => ∃ a vs, v = .ref a ∧ vs.length ≤ sizeLine ∧ ((F a ∧ H a = some (.tup vs)) ∨ KTup W.K a vs) ∧ RepL W F H ds vs
  | .lst ds, v => ∃ a vs, v = .ref a ∧ vs.length ≤ sizeLine ∧ (F a ∧ H a = some (.lst vs)) ∧ RepL W F H ds vs
  | .box, v => v = .ref W.ba
  | .dic kvs, v => ∃ a o us, v = .ref a ∧ F a ∧ H a = some (pin a o) ∧ DO W.P W.w a o (kvs.map fun p => nkD p.1) us ∧ RepE W F H kvs us
  | .set _, _ => False
  | .fn _, _ => False
def RepE (W : Wd) (F : Addr → Prop) (H : Hp) : List (D × D) → List (V × V) → Prop
  | [], us => us = []
  | p :: kvs, us => ∃ q r, us = q :: r ∧ RepP W F H p q ∧ RepE W F H kvs r
def RepP (W : Wd) (F : Addr → Prop) (H : Hp) : D × D → V × V → Prop
  | (k, x), q => Rep W F H k q.1 ∧ Rep W F H x q.2
def RepL (W : Wd) (F : Addr → Prop) (H : Hp) : List D → List V → Prop
  | [], vs => vs = []
  | d :: ds, vs => ∃ v r, vs = v :: r ∧ Rep W F H d v ∧ RepL W F H ds r
end
/-- d is read off v: a list may still be changed by its owner -/
def Top (W : Wd) (F : Addr → Prop) (H : Hp) : D → V → Prop
  | .lst ds, v => ∃ a vs, v = .ref a ∧ vs.length ≤ sizeLine ∧ H a = some (.lst vs) ∧ RepL W F H ds vs
  | .dic kvs, v => ∃ a o us, v = .ref a ∧ H a = some (pin a o) ∧ DO W.P W.w a o (kvs.map fun p => nkD p.1) us ∧ RepE W F H kvs us
  | d, v => Rep W F H d v
theorem Rep.top {W : Wd} {F : Addr → Prop} {H : Hp} : ∀ {d : D} {v : V}, Rep W F H d v → Top W F H d v
  | .lst ds, v, h => by
    simp only [Rep] at h
    obtain ⟨a, vs, e, z, ⟨_, h1⟩, h2⟩ := h
    exact ⟨a, vs, e, z, h1, h2⟩
  | .dic kvs, v, h => by
    simp only [Rep] at h
    obtain ⟨a, o, us, e, _, h1, h2, h3⟩ := h
    exact ⟨a, o, us, e, h1, h2, h3⟩
  | .non, _, h | .bl _, _, h | .int _, _, h | .str _, _, h | .tup _, _, h | .box, _, h | .set _, _, h | .fn _, _, h => h
theorem RepL.length {W : Wd} {F : Addr → Prop} {H : Hp} : ∀ {ds : List D} {vs : List V}, RepL W F H ds vs → vs.length = ds.length
  | [], vs, h => by
    simp only [RepL] at h
    rw [h]
    rfl
  | d :: ds, vs, h => by
    simp only [RepL] at h
    obtain ⟨v, r, rfl, _, h2⟩ := h
    rw [List.length_cons, List.length_cons, RepL.length h2]
theorem RepL.get {W : Wd} {F : Addr → Prop} {H : Hp} : ∀ {ds : List D} {vs : List V} {i : Nat} {d : D}, RepL W F H ds vs → ds[i]? = some d → ∃ v, vs[i]? = some v ∧ Rep W F H d v
  | [], _, _, _, _, e => by simp at e
  | x :: ds, vs, 0, d, h, e => by
    simp only [RepL] at h
    obtain ⟨v, r, rfl, h1, _⟩ := h
    simp at e
    subst e
    exact ⟨v, rfl, h1⟩
  | x :: ds, vs, i + 1, d, h, e => by
    simp only [RepL] at h
    obtain ⟨v, r, rfl, _, h2⟩ := h
    obtain ⟨v', e', h'⟩ := RepL.get (i := i) h2 (by simpa using e)
    exact ⟨v', by simpa using e', h'⟩
theorem RepL.append {W : Wd} {F : Addr → Prop} {H : Hp} : ∀ {ds es : List D} {vs us : List V}, RepL W F H ds vs → RepL W F H es us → RepL W F H (ds ++ es) (vs ++ us)
  | [], _, _, _, h, h' => by
    simp only [RepL] at h
    subst h
    exact h'
  | _ :: ds, _, _, _, h, h' => by
    simp only [RepL] at h
    obtain ⟨v, r, rfl, h1, h2⟩ := h
    exact ⟨v, _, rfl, h1, RepL.append h2 h'⟩
theorem RepL.set {W : Wd} {F : Addr → Prop} {H : Hp} {d : D} {v : V} (r : Rep W F H d v) : ∀ {ds : List D} {vs : List V} (i : Nat), RepL W F H ds vs → RepL W F H (ds.set i d) (vs.set i v)
  | [], _, _, h => by
    simp only [RepL] at h
    subst h
    rfl
  | _ :: ds, _, 0, h => by
    simp only [RepL] at h
    obtain ⟨v', r', rfl, _, h2⟩ := h
    exact ⟨v, r', rfl, r, h2⟩
  | _ :: ds, _, i + 1, h => by
    simp only [RepL] at h
    obtain ⟨v', r', rfl, h1, h2⟩ := h
    exact ⟨v', _, rfl, h1, RepL.set r i h2⟩
theorem RepL.take {W : Wd} {F : Addr → Prop} {H : Hp} : ∀ {ds : List D} {vs : List V} (n : Nat), RepL W F H ds vs → RepL W F H (ds.take n) (vs.take n)
  | _, _, 0, _ => by simp [RepL]
  | [], _, n + 1, h => by
    simp only [RepL] at h
    subst h
    simp [RepL]
  | _ :: ds, _, n + 1, h => by
    simp only [RepL] at h
    obtain ⟨v', r', rfl, h1, h2⟩ := h
    exact ⟨v', _, rfl, h1, RepL.take n h2⟩
theorem RepL.drop {W : Wd} {F : Addr → Prop} {H : Hp} : ∀ {ds : List D} {vs : List V} (n : Nat), RepL W F H ds vs → RepL W F H (ds.drop n) (vs.drop n)
  | _, _, 0, h => h
  | [], _, n + 1, h => by
    simp only [RepL] at h
    subst h
    simp [RepL]
  | _ :: ds, _, n + 1, h => by
    simp only [RepL] at h
    obtain ⟨v', r', rfl, h1, h2⟩ := h
    exact RepL.drop n h2
theorem RepL.eraseIdx {W : Wd} {F : Addr → Prop} {H : Hp} : ∀ {ds : List D} {vs : List V} (n : Nat), RepL W F H ds vs → RepL W F H (ds.eraseIdx n) (vs.eraseIdx n)
  | [], _, _, h => by
    simp only [RepL] at h
    subst h
    simp [RepL]
  | _ :: ds, _, 0, h => by
    simp only [RepL] at h
    obtain ⟨v', r', rfl, h1, h2⟩ := h
    exact h2
  | _ :: ds, _, n + 1, h => by
    simp only [RepL] at h
    obtain ⟨v', r', rfl, h1, h2⟩ := h
    exact ⟨v', _, rfl, h1, RepL.eraseIdx n h2⟩
theorem RepL.reverse {W : Wd} {F : Addr → Prop} {H : Hp} : ∀ {ds : List D} {vs : List V}, RepL W F H ds vs → RepL W F H ds.reverse vs.reverse
  | [], _, h => by
    simp only [RepL] at h
    subst h
    simp [RepL]
  | _ :: ds, _, h => by
    simp only [RepL] at h
    obtain ⟨v', r', rfl, h1, h2⟩ := h
    rw [List.reverse_cons, List.reverse_cons]
    exact RepL.append (RepL.reverse h2) ⟨v', [], rfl, h1, rfl⟩
theorem RepL.rep {W : Wd} {F : Addr → Prop} {H : Hp} {ds : List D} {vs : List V} (h : RepL W F H ds vs) : ∀ k : Nat, RepL W F H (List.replicate k ds).flatten (List.replicate k vs).flatten
  | 0 => by simp [RepL]
  | k + 1 => by
    rw [List.replicate_succ, List.replicate_succ, List.flatten_cons, List.flatten_cons]
    exact RepL.append h (RepL.rep h k)

/-! ### what keeps a standing -/
mutual
theorem Rep.mono {W : Wd} {F F' : Addr → Prop} {H H' : Hp} (hF : ∀ a, F a → F' a) (hH : ∀ a, F a → H' a = H a) : ∀ (d : D) (v : V), Rep W F H d v → Rep W F' H' d v
  | .tup ds, v, h => by
    simp only [Rep] at h ⊢
    obtain ⟨a, vs, e, z, h1, h2⟩ := h
    refine ⟨a, vs, e, z, ?_, RepL.mono hF hH ds vs h2⟩
    rcases h1 with ⟨f, q⟩ | q
    · exact .inl ⟨hF a f, (hH a f).trans q⟩
    · exact .inr q
  | .lst ds, v, h => by
    simp only [Rep] at h ⊢
    obtain ⟨a, vs, e, z, ⟨f, q⟩, h2⟩ := h
    exact ⟨a, vs, e, z, ⟨hF a f, (hH a f).trans q⟩, RepL.mono hF hH ds vs h2⟩
  | .dic kvs, v, h => by
    simp only [Rep] at h ⊢
    obtain ⟨a, o, us, e, f, h1, h2, h3⟩ := h
    exact ⟨a, o, us, e, hF a f, (hH a f).trans h1, h2, RepE.mono hF hH kvs us h3⟩
  | .non, _, h | .bl _, _, h | .int _, _, h | .str _, _, h | .box, _, h => h
  | .set _, _, h | .fn _, _, h => by simp only [Rep] at h
theorem RepE.mono {W : Wd} {F F' : Addr → Prop} {H H' : Hp} (hF : ∀ a, F a → F' a) (hH : ∀ a, F a → H' a = H a) : ∀ (kvs : List (D × D)) (us : List (V × V)), RepE W F H kvs us → RepE W F' H' kvs us
  | [], _, h => h
  | p :: kvs, us, h => by
    simp only [RepE] at h ⊢
    obtain ⟨v, r, e, h1, h2⟩ := h
    exact ⟨v, r, e, RepP.mono hF hH p v h1, RepE.mono hF hH kvs r h2⟩
theorem RepP.mono {W : Wd} {F F' : Addr → Prop} {H H' : Hp} (hF : ∀ a, F a → F' a) (hH : ∀ a, F a → H' a = H a) : ∀ (p : D × D) (q : V × V), RepP W F H p q → RepP W F' H' p q
  | (k, x), q, h => by
    simp only [RepP] at h ⊢
    exact ⟨Rep.mono hF hH k q.1 h.1, Rep.mono hF hH x q.2 h.2⟩
theorem RepL.mono {W : Wd} {F F' : Addr → Prop} {H H' : Hp} (hF : ∀ a, F a → F' a) (hH : ∀ a, F a → H' a = H a) : ∀ (ds : List D) (vs : List V), RepL W F H ds vs → RepL W F' H' ds vs
  | [], _, h => h
  | d :: ds, vs, h => by
    simp only [RepL] at h ⊢
    obtain ⟨v, r, e, h1, h2⟩ := h
    exact ⟨v, r, e, Rep.mono hF hH d v h1, RepL.mono hF hH ds r h2⟩
end

/-! ### the tape -/
/-- the tape's state: its cells, its registers -/
def Tp (W : Wd) (s : T) (H : Hp) : Prop :=
  H W.ba = some (.lst (.ref W.ca :: s.2.map V.int)) ∧ H W.ca = some (.lst (s.1.map V.int)) ∧ W.ba ≠ W.ca ∧ s.1.length ≤ 63 ∧ s.2.length ≤ 3

/-- an evaluation has gone from H to H': nothing was changed but the tape; F' is now frozen -/
structure Ext (W : Wd) (F : Addr → Prop) (H : Hp) (F' : Addr → Prop) (H' : Hp) : Prop where
  keep : ∀ a o, H a = some o → a ≠ W.ba → a ≠ W.ca → H' a = some o
  mono : ∀ a, F a → F' a
  new : ∀ a, F' a → F a ∨ H a = none
  live : ∀ a, F' a → H' a ≠ none
  alive : ∀ a, H a ≠ none → H' a ≠ none

/-- the slots' data: r says what the slots hold; true: an object of one's own -/
structure Sim (W : Wd) (F : Addr → Prop) (r : Env) (s : T) (σ : L2.St) (H : Hp) : Prop where
  len : r.length = σ.length
  val : ∀ (i : Nat) (d : D), r[i]? = some (some (false, d)) → ∃ v, σ[i]? = some (some v) ∧ Rep W F H d v
  own : ∀ (i : Nat) (d : D), r[i]? = some (some (true, d)) → ∃ a, σ[i]? = some (some (.ref a)) ∧ Top W F H d (.ref a) ∧ ¬ F a ∧ W.H0 a = none ∧ H a ≠ none ∧ a ≠ W.ba ∧ a ≠ W.ca
  dis : ∀ (i j : Nat) (d d' : D) (a : Addr), i ≠ j → r[i]? = some (some (true, d)) → r[j]? = some (some (true, d')) → σ[i]? = some (some (.ref a)) → σ[j]? = some (some (.ref a)) → False
  old : ∀ a o, W.H0 a = some o → a ≠ W.ba → a ≠ W.ca → H a = some o
  f0 : ∀ a, W.F0 a → F a
  f1 : ∀ a, F a → W.F0 a ∨ W.H0 a = none
  f2 : ∀ a, F a → H a ≠ none
  f3 : ¬ F W.ba ∧ ¬ F W.ca
  tape : Tp W s H

section
variable {W : Wd} {F F' F'' : Addr → Prop} {H H' H'' : Hp} {r : Env} {s s' : T} {σ : L2.St}
theorem Tp.ba_some (t : Tp W s H) : H W.ba ≠ none := by rw [t.1]; simp
theorem Tp.ca_some (t : Tp W s H) : H W.ca ≠ none := by rw [t.2.1]; simp
theorem Ext.refl (h : ∀ a, F a → H a ≠ none) : Ext W F H F H := ⟨fun _ _ e _ _ => e, fun _ e => e, fun _ e => .inl e, h, fun _ e => e⟩
theorem Ext.trans (a : Ext W F H F' H') (b : Ext W F' H' F'' H'') : Ext W F H F'' H'' where
  keep := fun x o e h1 h2 => b.keep x o (a.keep x o e h1 h2) h1 h2
  mono := fun x e => b.mono x (a.mono x e)
  new := fun x e => by
    rcases b.new x e with q | q
    · exact a.new x q
    · refine .inr ?_
      cases z : H x with
      | none => rfl
      | some o => exact absurd q (a.alive x (by rw [z]; simp))
  live := b.live
  alive := fun x e => b.alive x (a.alive x e)
/-- what is frozen stays -/
theorem Ext.frozen (e : Ext W F H F' H') (f2 : ∀ a, F a → H a ≠ none) (f3 : ¬ F W.ba ∧ ¬ F W.ca) : ∀ a, F a → H' a = H a := fun a fa => by
  cases z : H a with
  | none => exact absurd z (f2 a fa)
  | some o => exact e.keep a o z (fun q => f3.1 (q ▸ fa)) (fun q => f3.2 (q ▸ fa))
theorem Ext.rep (e : Ext W F H F' H') (S : Sim W F r s σ H) {d : D} {v : V} (h : Rep W F H d v) : Rep W F' H' d v := Rep.mono e.mono (e.frozen S.f2 S.f3) d v h
theorem Ext.repL (e : Ext W F H F' H') (S : Sim W F r s σ H) {ds : List D} {vs : List V} (h : RepL W F H ds vs) : RepL W F' H' ds vs := RepL.mono e.mono (e.frozen S.f2 S.f3) ds vs h
theorem Ext.top (e : Ext W F H F' H') (S : Sim W F r s σ H) {d : D} {v : V} (h : Top W F H d v) (hb : ∀ a, v = .ref a → isMut d = true → a ≠ W.ba ∧ a ≠ W.ca) : Top W F' H' d v := by
  cases d with
  | dic kvs =>
    obtain ⟨a, o, us, ea, h1, h2, h3⟩ := h
    obtain ⟨n1, n2⟩ := hb a ea rfl
    exact ⟨a, o, us, ea, e.keep a _ h1 n1 n2, h2, RepE.mono e.mono (e.frozen S.f2 S.f3) kvs us h3⟩
  | lst ds =>
    obtain ⟨a, vs, ea, z, h1, h2⟩ := h
    obtain ⟨n1, n2⟩ := hb a ea rfl
    exact ⟨a, vs, ea, z, e.keep a _ h1 n1 n2, e.repL S h2⟩
  | _ => exact e.rep S h
theorem Sim.ext (S : Sim W F r s σ H) (e : Ext W F H F' H') (t : Tp W s' H') : Sim W F' r s' σ H' where
  len := S.len
  val := fun i d h => let ⟨v, e1, q⟩ := S.val i d h; ⟨v, e1, e.rep S q⟩
  own := fun i d h => by
    obtain ⟨a, e1, q, nf, h0, hn, n1, n2⟩ := S.own i d h
    refine ⟨a, e1, e.top S q (fun b eb _ => by cases eb; exact ⟨n1, n2⟩), fun z => ?_, h0, e.alive a hn, n1, n2⟩
    rcases e.new a z with z | z
    · exact nf z
    · exact hn z
  dis := S.dis
  old := fun a o h n1 n2 => e.keep a o (S.old a o h n1 n2) n1 n2
  f0 := fun a h => e.mono a (S.f0 a h)
  f1 := fun a h => by
    rcases e.new a h with z | z
    · exact S.f1 a z
    · refine .inr ?_
      cases q : W.H0 a with
      | none => rfl
      | some o =>
        by_cases n1 : a = W.ba
        · exact absurd z (n1 ▸ S.tape.ba_some)
        · by_cases n2 : a = W.ca
          · exact absurd z (n2 ▸ S.tape.ca_some)
          · rw [S.old a o q n1 n2] at z; cases z
  f2 := e.live
  f3 := ⟨fun h => by
    rcases e.new _ h with z | z
    · exact S.f3.1 z
    · exact S.tape.ba_some z, fun h => by
    rcases e.new _ h with z | z
    · exact S.f3.2 z
    · exact S.tape.ca_some z⟩
  tape := t
/-- a new object -/
theorem Ext.laid (f2 : ∀ a, F a → H a ≠ none) {p : Addr} {o : HO} (hp : H p = none) : Ext W F H F (upd H p o) where
  keep := fun a q e _ _ => by rw [upd_ne (ne_of_none e hp)]; exact e
  mono := fun _ h => h
  new := fun _ h => .inl h
  live := fun a h => by
    by_cases e : a = p
    · subst e; rw [upd_same]; simp
    · rw [upd_ne e]; exact f2 a h
  alive := fun a h => by
    by_cases e : a = p
    · subst e; rw [upd_same]; simp
    · rw [upd_ne e]; exact h
theorem Tp.laid (t : Tp W s H) {p : Addr} {o : HO} (hp : H p = none) : Tp W s (upd H p o) := by
  obtain ⟨t1, t2, t3⟩ := t
  exact ⟨by rw [upd_ne (ne_of_none t1 hp)]; exact t1, by rw [upd_ne (ne_of_none t2 hp)]; exact t2, t3⟩
/-- freezing one more, new since H -/
theorem Ext.freeze (e : Ext W F H F' H') {a : Addr} (h : H a = none) (h' : H' a ≠ none) : Ext W F H (fun b => F' b ∨ b = a) H' where
  keep := e.keep
  mono := fun b q => .inl (e.mono b q)
  new := fun b q => by
    rcases q with q | rfl
    · exact e.new b q
    · exact .inr h
  live := fun b q => by
    rcases q with q | rfl
    · exact e.live b q
    · exact h'
  alive := e.alive
/-- an own object frozen -/
theorem Top.freeze {d : D} {a : Addr} (h : Top W F H d (.ref a)) : Rep W (fun b => F b ∨ b = a) H d (.ref a) := by
  cases d with
  | dic kvs =>
    obtain ⟨b, o, us, eb, h1, h2, h3⟩ := h
    cases eb
    simp only [Rep]
    exact ⟨a, o, us, rfl, .inr rfl, h1, h2, RepE.mono (fun _ q => .inl q) (fun _ _ => rfl) kvs us h3⟩
  | lst ds =>
    obtain ⟨b, vs, eb, z, h1, h2⟩ := h
    cases eb
    simp only [Rep]
    exact ⟨a, vs, rfl, z, ⟨.inr rfl, h1⟩, RepL.mono (fun _ q => .inl q) (fun _ _ => rfl) ds vs h2⟩
  | _ => exact Rep.mono (fun _ q => .inl q) (fun _ _ => rfl) _ _ h
theorem Top.mono {d : D} {v : V} (hF : ∀ a, F a → F' a) (hH : ∀ a, F a → H' a = H a) (hv : ∀ a o, v = .ref a → isMut d = true → H a = some o → H' a = some o) (h : Top W F H d v) : Top W F' H' d v := by
  cases d with
  | dic kvs =>
    obtain ⟨a, o, us, ea, h1, h2, h3⟩ := h
    exact ⟨a, o, us, ea, hv a _ ea rfl h1, h2, RepE.mono hF hH kvs us h3⟩
  | lst ds =>
    obtain ⟨a, vs, ea, z, h1, h2⟩ := h
    exact ⟨a, vs, ea, z, hv a _ ea rfl h1, RepL.mono hF hH ds vs h2⟩
  | _ => exact Rep.mono hF hH _ _ h
end
end Ip

/-! IpC: the operations. -/
namespace Ip
open PySem PySem.Spec PyProof.Rows L2

/-! ### the sort -/
section
variable {α : Type} {lt : α → α → Bool}
theorem insB_mem (x z : α) : ∀ l : List α, z ∈ insB lt x l ↔ z = x ∨ z ∈ l
  | [] => by simp [insB]
  | y :: l => by
    unfold insB
    split
    · simp
    · have ih := insB_mem x z l
      simp only [List.mem_cons, ih]
      constructor
      · rintro (h | h | h) <;> simp [h]
      · rintro (h | h | h) <;> simp [h]
theorem insB_len (x : α) : ∀ l : List α, (insB lt x l).length = l.length + 1
  | [] => rfl
  | y :: l => by
    unfold insB
    split
    · rfl
    · rw [List.length_cons, insB_len x l, List.length_cons]
theorem insB_sorted (h : PySem.W.TotalLe fun a b => !lt b a) (x : α) : ∀ l : List α, l.Pairwise (fun a b => (!lt b a) = true) → (insB lt x l).Pairwise (fun a b => (!lt b a) = true)
  | [], _ => by simp [insB]
  | y :: l, hp => by
    unfold insB
    rw [List.pairwise_cons] at hp
    by_cases c : lt x y = true
    · rw [if_pos c]
      refine List.pairwise_cons.mpr ⟨fun z hz => ?_, List.pairwise_cons.mpr hp⟩
      have hxy : (!lt y x) = true := by
        rcases h.total x y with q | q
        · exact q
        · rw [c] at q; cases q
      rcases List.mem_cons.mp hz with rfl | hz
      · exact hxy
      · exact h.trans x y z hxy (hp.1 z hz)
    · rw [if_neg c]
      refine List.pairwise_cons.mpr ⟨fun z hz => ?_, insB_sorted h x l hp.2⟩
      rcases (insB_mem x z l).mp hz with rfl | hz
      · simpa using c
      · exact hp.1 z hz
theorem insB_rank (h : PySem.W.TotalLe fun a b => !lt b a) (x c : α) : ∀ l : List α, l.Pairwise (fun a b => (!lt b a) = true) →
    (insB lt x l).filter (PySem.W.sameRank (fun a b => !lt b a) c) = l.filter (PySem.W.sameRank (fun a b => !lt b a) c) ++ [x].filter (PySem.W.sameRank (fun a b => !lt b a) c)
  | [], _ => by simp [insB]
  | y :: l, hp => by
    unfold insB
    rw [List.pairwise_cons] at hp
    by_cases q : lt x y = true
    · rw [if_pos q]
      by_cases hx : PySem.W.sameRank (fun a b => !lt b a) c x = true
      · have none : ∀ z ∈ y :: l, ¬ PySem.W.sameRank (fun a b => !lt b a) c z = true := fun z hz hc => by
          unfold PySem.W.sameRank at hx hc
          rw [Bool.and_eq_true] at hx hc
          have e1 : (!lt z y) = true := by
            rcases List.mem_cons.mp hz with rfl | hz
            · exact h.refl z
            · exact hp.1 z hz
          have e2 := h.trans y z c e1 hc.2
          have e3 := h.trans y c x e2 hx.1
          simp [q] at e3
        rw [List.filter_cons_of_pos (by exact hx), List.filter_eq_nil_iff.mpr none]
        simp [hx]
      · rw [List.filter_cons_of_neg (by exact hx)]
        simp [hx]
    · rw [if_neg q, List.filter_cons, List.filter_cons, insB_rank h x c l hp.2]
      split <;> rfl
theorem sortB_of (h : PySem.W.TotalLe fun a b => !lt b a) (l : List α) : sortB lt l = l.mergeSort fun a b => !lt b a := by
  have key : ∀ (l acc : List α), acc.Pairwise (fun a b => (!lt b a) = true) →
      (l.foldl (fun acc x => insB lt x acc) acc).Pairwise (fun a b => (!lt b a) = true) ∧ ∀ c, (l.foldl (fun acc x => insB lt x acc) acc).filter (PySem.W.sameRank (fun a b => !lt b a) c) = (acc ++ l).filter (PySem.W.sameRank (fun a b => !lt b a) c) := by
    intro l
    induction l with
    | nil => intro acc hp; exact ⟨hp, fun c => by simp⟩
    | cons x l ih =>
      intro acc hp
      obtain ⟨a, b⟩ := ih _ (insB_sorted h x acc hp)
      refine ⟨a, fun c => ?_⟩
      rw [List.foldl_cons, b c, List.filter_append, insB_rank h x c acc hp, ← List.filter_append, ← List.filter_append]
      simp
  obtain ⟨a, b⟩ := key l [] List.Pairwise.nil
  exact PySem.W.sort_one h _ _ a (PySem.W.sort_pairwise h l) fun c => (b c).trans (by rw [PySem.W.sort_stable h]; simp)
theorem insB_congr {lt' : α → α → Bool} (x : α) : ∀ l : List α, (∀ y ∈ l, lt x y = lt' x y) → insB lt x l = insB lt' x l
  | [], _ => rfl
  | y :: l, h => by
    unfold insB
    rw [h y List.mem_cons_self, insB_congr x l fun z hz => h z (List.mem_cons_of_mem _ hz)]
theorem sortB_congr {lt' : α → α → Bool} (l : List α) (h : ∀ x ∈ l, ∀ y ∈ l, lt x y = lt' x y) : sortB lt l = sortB lt' l := by
  have key : ∀ (m acc : List α), (∀ x ∈ m, x ∈ l) → (∀ x ∈ acc, x ∈ l) → m.foldl (fun acc x => insB lt x acc) acc = m.foldl (fun acc x => insB lt' x acc) acc := by
    intro m
    induction m with
    | nil => intro acc _ _; rfl
    | cons x m ih =>
      intro acc hm ha
      have hx := hm x List.mem_cons_self
      rw [List.foldl_cons, List.foldl_cons, insB_congr (lt' := lt') x acc fun y hy => h x hx y (ha y hy)]
      refine ih _ (fun z hz => hm z (List.mem_cons_of_mem _ hz)) fun z hz => ?_
      rcases (insB_mem x z acc).mp hz with rfl | hz
      · exact hx
      · exact ha z hz
  exact key l [] (fun _ h => h) (fun _ h => absurd h (by simp))
theorem sortB_mem (x : α) (l : List α) : x ∈ sortB lt l ↔ x ∈ l := by
  have key : ∀ (m acc : List α), x ∈ m.foldl (fun acc x => insB lt x acc) acc ↔ x ∈ acc ∨ x ∈ m := by
    intro m
    induction m with
    | nil => simp
    | cons y m ih =>
      intro acc
      rw [List.foldl_cons, ih, insB_mem, List.mem_cons]
      constructor
      · rintro ((h | h) | h) <;> simp [h]
      · rintro (h | h | h) <;> simp [h]
  rw [sortB, key]
  simp
theorem sortB_len (l : List α) : (sortB lt l).length = l.length := by
  have key : ∀ (m acc : List α), (m.foldl (fun acc x => insB lt x acc) acc).length = acc.length + m.length := by
    intro m
    induction m with
    | nil => simp
    | cons y m ih =>
      intro acc
      rw [List.foldl_cons, ih, insB_len, List.length_cons]
      omega
  rw [sortB, key]
  simp
end
theorem sortD_merge (xs : List D) (h : sortable xs = true) : sortD xs = xs.mergeSort (PySem.W.dataLe false D.py) := by
  unfold sortable at h
  simp only [Bool.and_eq_true, List.all_eq_true] at h
  obtain ⟨⟨h1, h2⟩, _⟩ := h
  have e : sortD xs = sortB (fun a b => PySem.W.dataLt a.py b.py) xs := by
    unfold sortD
    refine sortB_congr xs fun x hx y hy => ?_
    exact (ltD_py 59 x y (h2 x hx) (h2 y hy) (h1 x hx y hy)).symm
  exact e.trans (sortB_of (lt := fun a b : D => PySem.W.dataLt a.py b.py) (PySem.W.sortLe_total (PyProof.Rows.listOrd itemOrd) false fun b : D => PySem.W.keyToks b.py) xs)

/-! ### reading data off the heap -/
section
variable {W : Wd} {F : Addr → Prop} {H : Hp}
mutual
theorem Rep.dp : ∀ (n : Nat) (d : D) (v : V), pl n d = true → Rep W F H d v → Dp W.K H v d.py
  | n, d, v, hp, h => by
    cases d with
    | tup ds =>
      cases n with
      | zero => simp [pl] at hp
      | succ n =>
        simp only [pl] at hp
        simp only [Rep] at h
        obtain ⟨a, vs, rfl, z, h1, h2⟩ := h
        simp only [D.py]
        refine Dp.tup ?_ (RepL.dp n ds vs hp h2)
        rcases h1 with ⟨_, q⟩ | q
        · exact SqT.of q
        · exact .inr q
    | lst ds =>
      cases n with
      | zero => simp [pl] at hp
      | succ n =>
        simp only [pl] at hp
        simp only [Rep] at h
        obtain ⟨a, vs, rfl, z, ⟨_, q⟩, h2⟩ := h
        simp only [D.py]
        exact Dp.lst (SqL.of q) (RepL.dp n ds vs hp h2)
    | non => simp only [Rep] at h; subst h; exact Dp.non
    | bl b => simp only [Rep] at h; subst h; exact Dp.bl b
    | int i => simp only [Rep] at h; subst h; exact Dp.int i
    | str s => simp only [Rep] at h; subst h; exact Dp.str _
    | dic _ => simp [pl] at hp
    | set _ => simp [pl] at hp
    | box => simp [pl] at hp
    | fn _ => simp [pl] at hp
theorem RepL.dp : ∀ (n : Nat) (ds : List D) (vs : List V), ds.all (pl n) = true → RepL W F H ds vs → DpAll W.K H vs (pys ds)
  | _, [], _, _, h => by
    simp only [RepL] at h
    subst h
    exact DpAll.nil
  | n, d :: ds, _, hp, h => by
    simp only [List.all_cons, Bool.and_eq_true] at hp
    simp only [RepL] at h
    obtain ⟨v, r, rfl, h1, h2⟩ := h
    exact DpAll.cons (Rep.dp n d v hp.1 h1) (RepL.dp n ds r hp.2 h2)
end
theorem Top.dp {n : Nat} {d : D} {v : V} (hp : pl n d = true) (h : Top W F H d v) : Dp W.K H v d.py := by
  cases d with
  | lst ds =>
    cases n with
    | zero => simp [pl] at hp
    | succ n =>
      simp only [pl] at hp
      obtain ⟨a, vs, rfl, z, q, h2⟩ := h
      simp only [D.py]
      exact Dp.lst (SqL.of q) (RepL.dp n ds vs hp h2)
  | dic _ => simp [pl] at hp
  | _ => exact Rep.dp (F := F) n _ _ hp h
theorem Top.lst {ds : List D} {v : V} (h : Top W F H (.lst ds) v) : ∃ a vs, v = .ref a ∧ vs.length ≤ sizeLine ∧ H a = some (.lst vs) ∧ RepL W F H ds vs := h
theorem Top.tup {ds : List D} {v : V} (h : Top W F H (.tup ds) v) : ∃ a vs, v = .ref a ∧ vs.length ≤ sizeLine ∧ ((F a ∧ H a = some (.tup vs)) ∨ KTup W.K a vs) ∧ RepL W F H ds vs := by
  have h' : Rep W F H (.tup ds) v := h
  simpa only [Rep] using h'
theorem tup_sq {a : Addr} {vs : List V} (h : (F a ∧ H a = some (.tup vs)) ∨ KTup W.K a vs) : SqT W.K H a vs := by
  rcases h with ⟨_, q⟩ | q
  · exact SqT.of q
  · exact .inr q
theorem Top.int {i : Int} {v : V} (h : Top W F H (.int i) v) : v = .int i := h
theorem Top.bl {b : Bool} {v : V} (h : Top W F H (.bl b) v) : v = .bl b := h
theorem Top.str {s : List Nat} {v : V} (h : Top W F H (.str s) v) : v = .str ⟨s.toArray⟩ := h
theorem Top.non {v : V} (h : Top W F H .non v) : v = .non := h
theorem szL_eq : szL = sizeLine := by rw [sizeLine_eq]; rfl

/-- a new object that holds d -/
def Fre (W : Wd) (F : Addr → Prop) (H : Hp) : D → Addr → Prop
  | .dic kvs, a => ∃ (o : Obj) (us : List (V × V)), H a = some (pin a o) ∧ DO W.P W.w a o (kvs.map fun p => nkD p.1) us ∧ RepE W F H kvs us
  | .lst ds, a => ∃ vs : List V, vs.length ≤ sizeLine ∧ H a = some (.lst vs) ∧ RepL W F H ds vs
  | .tup ds, a => ∃ vs : List V, vs.length ≤ sizeLine ∧ H a = some (.tup vs) ∧ RepL W F H ds vs
  | _, _ => False
theorem Fre.freeze {d : D} {a : Addr} (h : Fre W F H d a) : Rep W (fun b => F b ∨ b = a) H d (.ref a) := by
  cases d with
  | lst ds =>
    obtain ⟨vs, z, h1, h2⟩ := h
    simp only [Rep]
    exact ⟨a, vs, rfl, z, ⟨.inr rfl, h1⟩, RepL.mono (fun _ q => .inl q) (fun _ _ => rfl) ds vs h2⟩
  | tup ds =>
    obtain ⟨vs, z, h1, h2⟩ := h
    simp only [Rep]
    exact ⟨a, vs, rfl, z, .inl ⟨.inr rfl, h1⟩, RepL.mono (fun _ q => .inl q) (fun _ _ => rfl) ds vs h2⟩
  | dic kvs =>
    obtain ⟨o, us, h1, h2, h3⟩ := h
    simp only [Rep]
    exact ⟨a, o, us, rfl, .inr rfl, h1, h2, RepE.mono (fun _ q => .inl q) (fun _ _ => rfl) kvs us h3⟩
  | _ => exact h.elim
theorem Fre.top {d : D} {a : Addr} (h : Fre W F H d a) (m : isMut d = true) : Top W F H d (.ref a) := by
  cases d with
  | lst ds =>
    obtain ⟨vs, z, h1, h2⟩ := h
    exact ⟨a, vs, rfl, z, h1, h2⟩
  | dic kvs =>
    obtain ⟨o, us, h1, h2, h3⟩ := h
    exact ⟨a, o, us, rfl, h1, h2, h3⟩
  | tup _ => cases m
  | _ => exact h.elim
/-- what an operation gives: something that is there for good, or one new object -/
def New (W : Wd) (F : Addr → Prop) (H : Hp) (d : D) (v : V) (H' : Hp) : Prop :=
  (H' = H ∧ Rep W F H d v ∧ isMut d = false) ∨ (∃ a o, v = .ref a ∧ H a = none ∧ H' = upd H a o ∧ Fre W F H' d a)
theorem RepL.laid (f2 : ∀ a, F a → H a ≠ none) {p : Addr} {o : HO} (hp : H p = none) {ds : List D} {vs : List V} (h : RepL W F H ds vs) : RepL W F (upd H p o) ds vs :=
  RepL.mono (fun _ q => q) (fun a q => upd_ne (fun e : a = p => f2 a q (by rw [e]; exact hp))) ds vs h
theorem New.lst (f2 : ∀ a, F a → H a ≠ none) {p : Addr} (hp : H p = none) {ds : List D} {vs : List V} (hz : vs.length ≤ sizeLine) (h : RepL W F H ds vs) : New W F H (.lst ds) (.ref p) (upd H p (.lst vs)) :=
  .inr ⟨p, _, rfl, hp, rfl, vs, hz, upd_same, RepL.laid f2 hp h⟩
theorem New.tup (f2 : ∀ a, F a → H a ≠ none) {p : Addr} (hp : H p = none) {ds : List D} {vs : List V} (hz : vs.length ≤ sizeLine) (h : RepL W F H ds vs) : New W F H (.tup ds) (.ref p) (upd H p (.tup vs)) :=
  .inr ⟨p, _, rfl, hp, rfl, vs, hz, upd_same, RepL.laid f2 hp h⟩
theorem New.now {d : D} {v : V} (h : Rep W F H d v) (m : isMut d = false) : New W F H d v H := .inl ⟨rfl, h, m⟩
end

/-! ### truth -/
theorem tru_of {W : Wd} {F : Addr → Prop} {H : Hp} {d : D} {v : V} {b : Bool} (h : Top W F H d v) (e : truD d = some b) : TruV W.K v H b := by
  cases d with
  | non => cases e; rw [h.non]; rfl
  | bl c => cases e; rw [h.bl]; rfl
  | int i => cases e; rw [h.int]; rfl
  | str s =>
    simp only [truD] at e
    split at e
    · rename_i hz
      cases e
      rw [h.str]
      refine ⟨by rw [← szL_eq]; exact hz, ?_⟩
      cases s with
      | nil => rfl
      | cons c r => show true = _; symm; show ((((r.length + 1 : Nat)) : Int) != 0) = true; simp; omega
    · cases e
  | tup ds =>
    cases e
    obtain ⟨a, vs, rfl, z, h1, h2⟩ := h.tup
    refine .inr (.inl ⟨vs, tup_sq h1, ?_⟩)
    have := h2.length
    cases ds <;> cases vs <;> simp_all
  | lst ds =>
    cases e
    obtain ⟨a, vs, rfl, z, h1, h2⟩ := h.lst
    refine .inl ⟨vs, SqL.of h1, ?_⟩
    have := h2.length
    cases ds <;> cases vs <;> simp_all
  | dic _ => cases e
  | set _ => exact (show False from h).elim
  | box => cases e
  | fn _ => cases e

/-- several operands -/
def TopL (W : Wd) (F : Addr → Prop) (H : Hp) : List D → List V → Prop
  | [], vs => vs = []
  | d :: ds, vs => ∃ v r, vs = v :: r ∧ Top W F H d v ∧ TopL W F H ds r
theorem TopL.one {W : Wd} {F : Addr → Prop} {H : Hp} {d : D} {vs : List V} (h : TopL W F H [d] vs) : ∃ v, vs = [v] ∧ Top W F H d v := by
  simp only [TopL] at h
  obtain ⟨v, r, rfl, h1, rfl⟩ := h
  exact ⟨v, rfl, h1⟩
theorem TopL.two {W : Wd} {F : Addr → Prop} {H : Hp} {d e : D} {vs : List V} (h : TopL W F H [d, e] vs) : ∃ v u, vs = [v, u] ∧ Top W F H d v ∧ Top W F H e u := by
  simp only [TopL] at h
  obtain ⟨v, r, rfl, h1, u, r', rfl, h2, rfl⟩ := h
  exact ⟨v, u, rfl, h1, h2⟩
theorem TopL.length {W : Wd} {F : Addr → Prop} {H : Hp} : ∀ {ds : List D} {vs : List V}, TopL W F H ds vs → vs.length = ds.length
  | [], vs, h => by
    simp only [TopL] at h
    rw [h]
    rfl
  | d :: ds, vs, h => by
    simp only [TopL] at h
    obtain ⟨v, r, rfl, _, h2⟩ := h
    rw [List.length_cons, List.length_cons, TopL.length h2]
end Ip

/-! IpQ: dicts: what stands there, finding a key. -/
namespace Ip
open PySem PySem.Spec PyProof.Rows L2
mutual
theorem nk_depth : ∀ (n : Nat) (d : D), hsh n d = true → (nkD d).depth ≤ n
  | n, .non, _ | n, .bl _, _ | n, .int _, _ | n, .str _, _ => by simp [nkD, NestedKey.depth]
  | n, .tup xs, h => by
    cases n with
    | zero => simp [hsh] at h
    | succ n =>
      simp only [hsh] at h
      simp only [nkD, NestedKey.depth]
      have := nks_depth n xs h
      omega
  | _, .lst _, h | _, .dic _, h | _, .set _, h | _, .box, h | _, .fn _, h => by simp [hsh] at h
theorem nks_depth : ∀ (n : Nat) (ds : List D), ds.all (hsh n) = true → NestedKey.depthAll (nkDs ds) ≤ n
  | n, [], _ => by simp [nkDs, NestedKey.depthAll]
  | n, d :: ds, h => by
    simp only [List.all_cons, Bool.and_eq_true] at h
    simp only [nkDs, NestedKey.depthAll]
    have h1 := nk_depth n d h.1
    have h2 := nks_depth n ds h.2
    omega
end
theorem strA_inj {s t : List Nat} : (⟨s.toArray⟩ : Str) = ⟨t.toArray⟩ ↔ s = t := by simp
mutual
theorem eqD_nk : ∀ (n m : Nat) (x y : D), hsh n x = true → hsh m y = true → eqD x y = decide (nkD x = nkD y)
  | n, m, x, y, hx, hy => by
    cases x with
    | tup xs =>
      cases n with
      | zero => simp [hsh] at hx
      | succ n =>
        cases y with
        | tup ys =>
          cases m with
          | zero => simp [hsh] at hy
          | succ m =>
            simp only [hsh] at hx hy
            rw [eqD, eqDs_nk n m xs ys hx hy]
            simp [nkD]
        | bl b => cases b <;> simp [eqD, nkD]
        | _ => simp_all [eqD, nkD, hsh]
    | non => cases y <;> simp_all [eqD, nkD, hsh]
    | bl a =>
      cases y with
      | bl b => cases a <;> cases b <;> simp [eqD, nkD]
      | int j => cases a <;> simp [eqD, nkD] <;> rw [Bool.eq_iff_iff] <;> simp
      | _ => simp_all [eqD, nkD, hsh]
    | int i =>
      cases y with
      | bl b => cases b <;> simp [eqD, nkD] <;> rw [Bool.eq_iff_iff] <;> simp
      | int j => simp [eqD, nkD]; rw [Bool.eq_iff_iff]; simp
      | _ => simp_all [eqD, nkD, hsh]
    | str s =>
      cases y with
      | str t => simp only [eqD, nkD]; rw [Bool.eq_iff_iff]; simp
      | _ => simp_all [eqD, nkD, hsh]
    | _ => simp [hsh] at hx
theorem eqDs_nk : ∀ (n m : Nat) (xs ys : List D), xs.all (hsh n) = true → ys.all (hsh m) = true → eqDs xs ys = decide (nkDs xs = nkDs ys)
  | _, _, [], [], _, _ => by simp [eqDs, nkDs]
  | _, _, [], _ :: _, _, _ => by simp [eqDs, nkDs]
  | _, _, _ :: _, [], _, _ => by simp [eqDs, nkDs]
  | n, m, x :: xs, y :: ys, hx, hy => by
    simp only [List.all_cons, Bool.and_eq_true] at hx hy
    rw [eqDs, eqD_nk n m x y hx.1 hy.1, eqDs_nk n m xs ys hx.2 hy.2, Bool.eq_iff_iff]
    simp [nkDs]
end
/-- the library's key of a number, of a text -/
def keyD : D → Key
  | .int i => .inl i
  | .str s => .inr ⟨s.toArray⟩
  | _ => .inl 0
theorem eqD_key {x y : D} (hx : isKey x = true) (hy : isKey y = true) : eqD x y = decide (keyD x = keyD y) := by
  cases x with
  | int i =>
    cases y with
    | int j => simp only [eqD, keyD]; rw [Bool.eq_iff_iff]; simp
    | str t => simp [eqD, keyD]
    | _ => simp [isKey] at hy
  | str s =>
    cases y with
    | int j => simp [eqD, keyD]
    | str t => simp only [eqD, keyD]; rw [Bool.eq_iff_iff]; simp
    | _ => simp [isKey] at hy
  | _ => simp [isKey] at hx
section
variable {W : Wd} {F : Addr → Prop} {H : Hp} {X : Cx} {pins : List (Addr × Obj)} {σ : L2.St} {s : Shared}
theorem rep_key {d : D} {v : V} (h : isKey d = true) (r : Rep W F H d v) : v = kV (keyD d) := by
  cases d with
  | int i => simp only [Rep] at r; exact r
  | str t => simp only [Rep] at r; exact r
  | _ => simp [isKey] at h
mutual
theorem nested_of (hK : X.K = W.K) (I : Inv X pins σ H s) : ∀ (n : Nat) (d : D) (v : V) (u : Value), hsh n d = true → Rep W F H d v → RelV v u → NestedIs s.heap (nkD d) u
  | n, .non, v, u, _, r, q => by simp only [Rep] at r; subst r; rw [show u = .none from q]; exact .none
  | n, .bl b, v, u, _, r, q => by simp only [Rep] at r; subst r; rw [show u = .bool b from q]; exact .bool rfl
  | n, .int i, v, u, _, r, q => by simp only [Rep] at r; subst r; obtain ⟨t, rfl⟩ := q; exact .int i t
  | n, .str x, v, u, _, r, q => by simp only [Rep] at r; subst r; obtain ⟨t, rfl⟩ := q; exact .text _ t
  | n, .tup ds, v, u, h, r, q => by
    cases n with
    | zero => simp [hsh] at h
    | succ n =>
      simp only [hsh] at h
      simp only [Rep] at r
      obtain ⟨a, vs, rfl, z, h1, h2⟩ := r
      obtain ⟨its, rv, ⟨o, e1, e2, m, e3⟩, _⟩ := I.tuple (hK ▸ tup_sq h1)
      rw [show u = .ref a from q]
      exact .tup e1 e2 e3 (nesteds_of hK I n ds vs its h h2 rv)
  | _, .lst _, _, _, h, _, _ | _, .dic _, _, _, h, _, _ | _, .set _, _, _, h, _, _ | _, .box, _, _, h, _, _ | _, .fn _, _, _, h, _, _ => by simp [hsh] at h
theorem nesteds_of (hK : X.K = W.K) (I : Inv X pins σ H s) : ∀ (n : Nat) (ds : List D) (vs : List V) (us : List Value), ds.all (hsh n) = true → RepL W F H ds vs → Vals vs us → NestedAll s.heap (nkDs ds) us
  | n, [], vs, us, _, r, q => by
    simp only [RepL] at r
    subst r
    cases q
    exact .nil
  | n, d :: ds, vs, us, h, r, q => by
    simp only [List.all_cons, Bool.and_eq_true] at h
    simp only [RepL] at r
    obtain ⟨v, r', rfl, h1, h2⟩ := r
    cases q with
    | cons q1 q2 => exact .cons (nested_of hK I n d v _ h.1 h1 q1) (nesteds_of hK I n ds r' _ h.2 h2 q2)
end
theorem isTK_iff {d : D} : isTK d = true ↔ (∃ ds, d = .tup ds) ∧ hsh 8 d = true := by
  unfold isTK
  cases d <;> simp [isTupD]
theorem nested_key_of (hK : X.K = W.K) (I : Inv X pins σ H s) {d : D} {v : V} {u : Value} (h : isTK d = true) (r : Rep W F H d v) (q : RelV v u) : ∃ b, v = .ref b ∧ u = .ref b ∧ (nestedKind X.prog X.w).is s.heap (nkD d) b := by
  obtain ⟨⟨ds, rfl⟩, h8⟩ := isTK_iff.mp h
  have n := nested_of hK I 8 _ v u h8 r q
  simp only [Rep] at r
  obtain ⟨a, vs, rfl, _⟩ := r
  have e : u = .ref a := q
  subst e
  exact ⟨a, rfl, rfl, n, nk_depth 8 _ h8⟩
theorem RepE.length : ∀ {kvs : List (D × D)} {us : List (V × V)}, RepE W F H kvs us → us.length = kvs.length
  | [], us, h => by simp only [RepE] at h; rw [h]; rfl
  | p :: kvs, us, h => by
    simp only [RepE] at h
    obtain ⟨q, r, rfl, _, h2⟩ := h
    rw [List.length_cons, List.length_cons, RepE.length h2]
theorem RepE.append : ∀ {ds es : List (D × D)} {vs us : List (V × V)}, RepE W F H ds vs → RepE W F H es us → RepE W F H (ds ++ es) (vs ++ us)
  | [], _, _, _, h, h' => by
    simp only [RepE] at h
    subst h
    exact h'
  | _ :: ds, _, _, _, h, h' => by
    simp only [RepE] at h
    obtain ⟨v, r, rfl, h1, h2⟩ := h
    exact ⟨v, _, rfl, h1, RepE.append h2 h'⟩
/-- what is found, told twice -/
def RelF (W : Wd) (F : Addr → Prop) (H : Hp) : Option D → Option V → Prop
  | some d, some v => Rep W F H d v
  | none, none => True
  | _, _ => False
/-- a dict with numbers and texts: its entries are those of its data -/
theorem leaf_keys : ∀ {kvs : List (D × D)} {es : List (Key × V)}, (kvs.all fun p => isKey p.1) = true → RepE W F H kvs (es.map fun e => (kV e.1, e.2)) → es.map (·.1) = kvs.map fun p => keyD p.1
  | [], es, _, h => by
    simp only [RepE, List.map_eq_nil_iff] at h
    rw [h]
    rfl
  | p :: kvs, es, hk, h => by
    simp only [List.all_cons, Bool.and_eq_true] at hk
    simp only [RepE] at h
    obtain ⟨q, r, e, h1, h2⟩ := h
    cases es with
    | nil => cases e
    | cons e0 es =>
      rw [List.map_cons] at e
      obtain ⟨rfl, rfl⟩ := List.cons.inj e
      obtain ⟨k, x⟩ := p
      simp only [RepP] at h1
      rw [List.map_cons, List.map_cons, leaf_keys hk.2 h2]
      congr 1
      exact kV_inj (rep_key hk.1 h1.1)
theorem leaf_get {k : D} (hk : isKey k = true) : ∀ {kvs : List (D × D)} {es : List (Key × V)}, (kvs.all fun p => isKey p.1) = true → RepE W F H kvs (es.map fun e => (kV e.1, e.2)) → RelF W F H (dGet kvs k) (valV es (keyD k))
  | [], es, _, h => by
    simp only [RepE, List.map_eq_nil_iff] at h
    rw [h]
    trivial
  | p :: kvs, es, ha, h => by
    have hks := leaf_keys ha h
    simp only [List.all_cons, Bool.and_eq_true] at ha
    simp only [RepE] at h
    obtain ⟨q, r, e, h1, h2⟩ := h
    cases es with
    | nil => cases e
    | cons e0 es =>
      rw [List.map_cons] at e
      obtain ⟨rfl, rfl⟩ := List.cons.inj e
      obtain ⟨k0, x⟩ := p
      simp only [RepP] at h1
      have e0k : e0.1 = keyD k0 := (List.cons.inj hks).1
      have ih := leaf_get hk ha.2 h2
      have he := eqD_key ha.1 hk
      by_cases c : keyD k0 = keyD k
      · rw [valV_pos (by rw [e0k]; exact c)]
        unfold dGet
        rw [List.find?_cons_of_pos (by dsimp only at he ⊢; rw [he, decide_eq_true c])]
        exact h1.2
      · rw [valV_neg (by rw [e0k]; exact c)]
        unfold dGet at ih ⊢
        rw [List.find?_cons_of_neg (by dsimp only at he ⊢; rw [he, decide_eq_false c]; decide)]
        exact ih
/-- the entry at a key, of a dict with tuples -/
def valT (es : List (NestedKey × Addr × V)) (k : NestedKey) : Option V := (es.find? fun e => decide (e.1 = k)).map (·.2.2)
theorem tup_get {k : D} (hk : isTK k = true) : ∀ {kvs : List (D × D)} {es : List (NestedKey × Addr × V)}, (kvs.all fun p => isTK p.1) = true → es.map (·.1) = kvs.map (fun p => nkD p.1) → RepE W F H kvs (es.map fun e => (.ref e.2.1, e.2.2)) → RelF W F H (dGet kvs k) (valT es (nkD k))
  | [], es, _, _, h => by
    simp only [RepE, List.map_eq_nil_iff] at h
    rw [h]
    trivial
  | p :: kvs, es, ha, hks, h => by
    simp only [List.all_cons, Bool.and_eq_true] at ha
    simp only [RepE] at h
    obtain ⟨q, r, e, h1, h2⟩ := h
    cases es with
    | nil => cases e
    | cons e0 es =>
      rw [List.map_cons] at e
      obtain ⟨rfl, rfl⟩ := List.cons.inj e
      obtain ⟨k0, x⟩ := p
      simp only [RepP] at h1
      have e0k : e0.1 = nkD k0 := (List.cons.inj hks).1
      have ih := tup_get hk ha.2 (List.cons.inj hks).2 h2
      have he := eqD_nk 8 8 k0 k (isTK_iff.mp ha.1).2 (isTK_iff.mp hk).2
      by_cases c : nkD k0 = nkD k
      · unfold dGet valT
        rw [List.find?_cons_of_pos (by dsimp only at he ⊢; rw [he, decide_eq_true c]), List.find?_cons_of_pos (by rw [e0k, decide_eq_true c])]
        exact h1.2
      · unfold dGet valT at ih ⊢
        rw [List.find?_cons_of_neg (by dsimp only at he ⊢; rw [he, decide_eq_false c]; decide), List.find?_cons_of_neg (by rw [e0k, decide_eq_false c]; decide)]
        exact ih
/-- a dict with numbers and texts is one of the first form -/
theorem DO.leaf {P : Program} {w : World} {a : Addr} {o : Obj} {kvs : List (D × D)} {us : List (V × V)} (d : DO P w a o (kvs.map fun p => nkD p.1) us) (hk : (kvs.all fun p => isKey p.1) = true) (r : RepE W F H kvs us) : ∃ es : List (Key × V), us = es.map (fun e => (kV e.1, e.2)) ∧ DLf P w o es := by
  obtain ⟨_, _, h | ⟨es, rfl, h1, arr, ep, ys, x1, x2, x3, x4, x5⟩⟩ := d
  · exact h
  · cases es with
    | nil =>
      cases x5
      have k0 : PySem.KeysOf (mixKind P w) arr := fun e he => by
        have he := Array.mem_toList_iff.mpr he
        rw [x3] at he
        cases he
      exact ⟨[], rfl, arr, ep, [], x1, x2, k0, (by rw [x3]; exact .nil), List.nodup_nil, .nil⟩
    | cons e es =>
      cases kvs with
      | nil => cases h1
      | cons p kvs =>
        exfalso
        simp only [List.all_cons, Bool.and_eq_true] at hk
        simp only [RepE, List.map_cons] at r
        obtain ⟨q, r', e', h2, _⟩ := r
        obtain ⟨rfl, _⟩ := List.cons.inj e'
        obtain ⟨k, x⟩ := p
        simp only [RepP] at h2
        have := rep_key hk.1 h2.1
        cases hkk : keyD k with
        | inl i => rw [hkk] at this; cases this
        | inr i => rw [hkk] at this; cases this
/-- a dict with tuples is one of the second form -/
theorem DO.tups {P : Program} {w : World} {a : Addr} {o : Obj} {kvs : List (D × D)} {us : List (V × V)} (d : DO P w a o (kvs.map fun p => nkD p.1) us) (hk : (kvs.all fun p => isTK p.1) = true) (r : RepE W F H kvs us) : ∃ es : List (NestedKey × Addr × V), us = es.map (fun e => (.ref e.2.1, e.2.2)) ∧ es.map (·.1) = kvs.map (fun p => nkD p.1) ∧ DTp P w o es := by
  obtain ⟨_, _, ⟨es, rfl, arr, ep, vs, x1, x2, x3, x4, x5, x6⟩ | h⟩ := d
  · cases es with
    | nil =>
      have hl := r.length
      cases kvs with
      | cons _ _ => cases hl
      | nil =>
        cases x6
        refine ⟨[], rfl, rfl, arr, ep, [], x1, x2, ?_, List.nodup_nil, .nil⟩
        generalize arr.toList = l at x4
        cases x4
        rfl
    | cons e es =>
      cases kvs with
      | nil => simp [RepE] at r
      | cons p kvs =>
        exfalso
        simp only [List.all_cons, Bool.and_eq_true] at hk
        simp only [RepE, List.map_cons] at r
        obtain ⟨q, r', e', h2, _⟩ := r
        obtain ⟨rfl, _⟩ := List.cons.inj e'
        obtain ⟨k, x⟩ := p
        simp only [RepP] at h2
        obtain ⟨⟨ds, rfl⟩, _⟩ := isTK_iff.mp hk.1
        have h3 := h2.1
        simp only [Rep] at h3
        obtain ⟨b, vs', e3, _⟩ := h3
        cases hkk : e.1 with
        | inl i => rw [hkk] at e3; cases e3
        | inr i => rw [hkk] at e3; cases e3
  · exact h
end
end Ip

/-! IpR: dicts: the operations. -/
namespace Ip
open PySem PySem.Spec PyProof.Rows L2
/-- a dict stands at a -/
def Dic (W : Wd) (F : Addr → Prop) (H : Hp) (kvs : List (D × D)) (a : Addr) : Prop := ∃ o us, H a = some (pin a o) ∧ DO W.P W.w a o (kvs.map fun p => nkD p.1) us ∧ RepE W F H kvs us
section
variable {W : Wd} {F : Addr → Prop} {H : Hp} {X : Cx} {pins : List (Addr × Obj)} {σ : L2.St} {s : Shared} {kvs : List (D × D)} {a : Addr} {k d : D} {y : V} {u : Value} {A : Around} {E : Value → Shared → Prop}
theorem Top.dic {v : V} (h : Top W F H (.dic kvs) v) : ∃ a, v = .ref a ∧ Dic W F H kvs a := by
  obtain ⟨a, o, us, e, h⟩ := h
  exact ⟨a, e, o, us, h⟩
theorem pin_of {o : Obj} (I : Inv X pins σ H s) (h : H a = some (pin a o)) : s.heap.get? a = some o := by
  obtain ⟨h1, _⟩ := (show ObjOk X.prog X.w H s.heap a (pin a o) from I.hok a _ h)
  exact h1
theorem DO.exact {P : Program} {w : World} {o : Obj} {ks : List NestedKey} {us : List (V × V)} (d : DO P w a o ks us) : o.ExactDict ∧ ∃ arr ep, o.data = .dict arr ep ∧ arr.size = us.length := by
  obtain ⟨_, _, ⟨es, rfl, arr, ep, vs, x1, x2, _, x4, _, x6⟩ | ⟨es, rfl, _, arr, ep, ys, x1, x2, x3, _, x5⟩⟩ := d
  · refine ⟨x1, arr, ep, x2, ?_⟩
    rw [List.length_map, x6.length, ← x4.length, Array.length_toList]
  · refine ⟨x1, arr, ep, x2, ?_⟩
    rw [List.length_map, Paired.length x5, ← Array.length_toList, x3, List.length_map]
theorem Dic.raw (I : Inv X pins σ H s) (h : Dic W F H kvs a) : ∃ arr ep, s.heap.DictRaw a arr ep ∧ arr.size = kvs.length ∧ (a == sysModules) = false := by
  obtain ⟨o, us, h1, h2, h3⟩ := h
  obtain ⟨x1, arr, ep, x2, x3⟩ := h2.exact
  exact ⟨arr, ep, ⟨o, pin_of I h1, x1, x2⟩, by rw [x3, h3.length], h2.1⟩
theorem Dic.typeIs (I : Inv X pins σ H s) (h : Dic W F H kvs a) : s.TypeIs (.ref a) "dict" := by
  obtain ⟨_, _, r, _⟩ := h.raw I
  exact r.typeIs
theorem Dic.noDict (I : Inv X pins σ H s) (h : Dic W F H kvs a) : ∀ b, Value.ref a = .ref b → ∃ ob, s.heap.get? b = some ob ∧ ob.dict = none := by
  intro b e
  cases e
  obtain ⟨_, _, ⟨o, h1, h2, _⟩, _⟩ := h.raw I
  exact ⟨o, h1, h2.2.1⟩
theorem tups_stand (hK : X.K = W.K) (I : Inv X pins σ H s) : ∀ {kvs : List (D × D)} {es : List (NestedKey × Addr × V)} {ys : List (NestedKey × Addr × Value)}, (kvs.all fun p => isTK p.1) = true → es.map (·.1) = kvs.map (fun p => nkD p.1) → RepE W F H kvs (es.map fun e => (.ref e.2.1, e.2.2)) → Paired (fun p q => p.1 = q.1 ∧ p.2.1 = q.2.1 ∧ RelV p.2.2 q.2.2) es ys → ∀ x ∈ ys, (nestedKind X.prog X.w).is s.heap x.1 x.2.1 := by
  intro kvs
  induction kvs with
  | nil =>
    intro es ys _ hm _ hp x hx
    cases es with
    | nil => cases hp; cases hx
    | cons _ _ => cases hm
  | cons p kvs ih =>
    intro es ys ha hm hr hp x hx
    cases es with
    | nil => cases hm
    | cons e es =>
      cases hp with
      | cons q1 q2 =>
        rw [List.all_cons, Bool.and_eq_true] at ha
        rw [List.map_cons] at hr
        simp only [RepE] at hr
        obtain ⟨q, r', eq, g1, g2⟩ := hr
        obtain ⟨rfl, rfl⟩ := List.cons.inj eq
        rcases List.mem_cons.mp hx with rfl | hx
        · obtain ⟨k0, x0⟩ := p
          simp only [RepP] at g1
          obtain ⟨b', e2, e3, n2⟩ := nested_key_of hK I ha.1 g1.1 (u := .ref e.2.1) rfl
          cases e2
          have e5 : e.1 = nkD k0 := (List.cons.inj hm).1
          rw [← q1.1, ← q1.2.1, e5]
          exact n2
        · exact ih ha.2 (List.cons.inj hm).2 g2 q2 x hx
/-- what is found at a key: by the library's dict with numbers and texts, or by the one with tuples -/
theorem Dic.find (hK : X.K = W.K) (hP : X.prog = W.P) (hw : X.w = W.w) (I : Inv X pins σ H s) (h : Dic W F H kvs a) (hk : keysOk kvs k = true) (r : Rep W F H k y) (ry : RelV y u) :
    ((∃ vs, s.heap.DictOf (mixKind X.prog X.w) a vs ∧ (mixKind X.prog X.w).is (keyD k) u = true ∧ ∃ ov, RelF W F H (dGet kvs k) ov ∧ RelO ov (valueAt vs (keyD k))) ∨
     (∃ b xs, u = .ref b ∧ (nestedKind X.prog X.w).is s.heap (nkD k) b ∧ s.heap.DictOfH (nestedKind X.prog X.w) a xs ∧ ∃ ov, RelF W F H (dGet kvs k) ov ∧ RelO ov ((atKey xs (nkD k)).map (·.2)))) := by
  obtain ⟨o, us, h1, h2, h3⟩ := h
  have e1 := pin_of I h1
  unfold keysOk at hk
  rw [Bool.or_eq_true, Bool.and_eq_true, Bool.and_eq_true] at hk
  rcases hk with ⟨k1, k2⟩ | ⟨k1, k2⟩
  · obtain ⟨es, rfl, arr, ep, vs, x1, x2, x3, x4, x5, x6⟩ := h2.leaf k2 h3
    refine .inl ⟨vs, ⟨o, arr, ep, e1, x1, x2, by rw [hP, hw]; exact x3, by rw [hP, hw]; exact x4, x5⟩, kV_is (by rw [← rep_key k1 r]; exact ry), _, leaf_get k1 k2 h3, x6.val _⟩
  · obtain ⟨es, rfl, hks, arr, ep, ys, x1, x2, x3, x4, x5⟩ := h2.tups k2 h3
    obtain ⟨b, rfl, rfl, nk⟩ := nested_key_of hK I k1 r ry
    refine .inr ⟨b, ys, rfl, nk, ⟨o, arr, ep, e1, x1, x2, by rw [hP, hw]; exact x3, ?_, x4⟩, _, tup_get k1 k2 hks h3, ?_⟩
    · -- the keys' tuples stand
      exact tups_stand hK I k2 hks h3 x5
    · have key : ∀ {es : List (NestedKey × Addr × V)} {ys : List (NestedKey × Addr × Value)}, Paired (fun p q => p.1 = q.1 ∧ p.2.1 = q.2.1 ∧ RelV p.2.2 q.2.2) es ys → ∀ nk, RelO (valT es nk) ((atKey ys nk).map (·.2)) := by
        intro es ys hp nk
        induction hp with
        | nil => trivial
        | @cons p q ps qs hq _ ih =>
          unfold valT atKey at ih ⊢
          by_cases c : p.1 = nk
          · rw [List.find?_cons_of_pos (by simpa using c), List.find?_cons_of_pos (by rw [← hq.1]; simpa using c)]
            exact hq.2.2
          · rw [List.find?_cons_of_neg (by simpa using c), List.find?_cons_of_neg (by rw [← hq.1]; simpa using c)]
            exact ih
      exact key x5 _
theorem RelF.isSome {od : Option D} {ov : Option V} (h : RelF W F H od ov) : od.isSome = ov.isSome := by
  cases od <;> cases ov <;> first | rfl | exact h.elim
theorem RelF.some {d : D} {ov : Option V} (h : RelF W F H (.some d) ov) : ∃ v, ov = .some v ∧ Rep W F H d v := by
  cases ov with
  | none => exact h.elim
  | some v => exact ⟨v, rfl, h⟩
theorem room8 {A : Around} (hu : A.units + 64 < cLine) : (nestedKind X.prog X.w).room A.in1 := by show A.in1.units + 8 < cLine; show A.units + 1 + 8 < cLine; omega
theorem dic_in {Q : Value → Shared → Prop} (hK : X.K = W.K) (hP : X.prog = W.P) (hw : X.w = W.w) (hu : A.units + 64 < cLine) (I : Inv X pins σ H s) (h : Dic W F H kvs a) (hk : keysOk kvs k = true) (r : Rep W F H k y) (ry : RelV y u)
    (q : ∀ s', Inv X pins σ H s' → Q (.bool (dGet kvs k).isSome) s') : wpAny (model X.prog X.w) A (compareOp .In u (.ref a)) Q E s := by
  obtain ⟨_, _, _, _, hd⟩ := h.raw I
  rcases h.find hK hP hw I hk r ry with ⟨vs, dd, hi, ov, h1, h2⟩ | ⟨b, xs, rfl, hi, dd, ov, h1, h2⟩
  · refine wpAny_in_of hi hd dd.mapOf ?_
    rw [← h2.isSome_eq, ← h1.isSome]
    exact q _ (I.tok _)
  · refine wpAny_in_heap (room8 hu) hi hd dd ?_
    have e := h2.isSome_eq
    rw [Option.isSome_map] at e
    rw [← e, ← h1.isSome]
    exact q _ (I.tok _)
theorem dic_notIn {Q : Value → Shared → Prop} (hK : X.K = W.K) (hP : X.prog = W.P) (hw : X.w = W.w) (hu : A.units + 64 < cLine) (I : Inv X pins σ H s) (h : Dic W F H kvs a) (hk : keysOk kvs k = true) (r : Rep W F H k y) (ry : RelV y u)
    (q : ∀ s', Inv X pins σ H s' → Q (.bool (!(dGet kvs k).isSome)) s') : wpAny (model X.prog X.w) A (compareOp .NotIn u (.ref a)) Q E s := by
  obtain ⟨_, _, _, _, hd⟩ := h.raw I
  rcases h.find hK hP hw I hk r ry with ⟨vs, dd, hi, ov, h1, h2⟩ | ⟨b, xs, rfl, hi, dd, ov, h1, h2⟩
  · refine wpAny_notIn_of hi hd dd.mapOf ?_
    rw [← h2.isSome_eq, ← h1.isSome]
    exact q _ (I.tok _)
  · refine wpAny_notIn_heap (room8 hu) hi hd dd ?_
    have e := h2.isSome_eq
    rw [Option.isSome_map] at e
    rw [← e, ← h1.isSome]
    exact q _ (I.tok _)
theorem dic_get {Q : Value → Shared → Prop} (hK : X.K = W.K) (hP : X.prog = W.P) (hw : X.w = W.w) (hu : A.units + 64 < cLine) (I : Inv X pins σ H s) (h : Dic W F H kvs a) (hk : keysOk kvs k = true) (r : Rep W F H k y) (ry : RelV y u) (hg : dGet kvs k = some d)
    (q : ∀ v w' s', Inv X pins σ H s' → Rep W F H d v → RelV v w' → Q w' s') : wpAny (model X.prog X.w) A (getItem (.ref a) u) Q E s := by
  rcases h.find hK hP hw I hk r ry with ⟨vs, dd, hi, ov, h1, h2⟩ | ⟨b, xs, rfl, hi, dd, ov, h1, h2⟩
  · rw [hg] at h1
    obtain ⟨v, rfl, rv⟩ := h1.some
    obtain ⟨w', hw', rw'⟩ := RelO.some_of (v := v) (o := valueAt vs (keyD k)) h2
    exact wpAny_getItem_of hi dd.mapOf hw' (q v w' _ (I.tok _) rv rw')
  · rw [hg] at h1
    obtain ⟨v, rfl, rv⟩ := h1.some
    obtain ⟨w', hw', rw'⟩ := RelO.some_of (v := v) (o := (atKey xs (nkD k)).map (·.2)) h2
    obtain ⟨p, hp, hp2⟩ := Option.map_eq_some_iff.mp hw'
    refine wpAny_getItem_heap (room8 hu) hi dd hp ?_
    rw [hp2]
    exact q v w' _ (I.tok _) rv rw'
theorem RelF.getD {od : Option D} {ov : Option V} {d0 : D} {v0 : V} (h : RelF W F H od ov) (h0 : Rep W F H d0 v0) : Rep W F H (od.getD d0) (ov.getD v0) := by
  cases od <;> cases ov <;> first | exact h0 | exact h | exact h.elim
theorem dic_get1 {Q : Value → Shared → Prop} (hK : X.K = W.K) (hP : X.prog = W.P) (hw : X.w = W.w) (hu : A.units + 64 < cLine) (I : Inv X pins σ H s) (h : Dic W F H kvs a) (hk : keysOk kvs k = true) (r : Rep W F H k y) (ry : RelV y u)
    (q : ∀ v w' s', Inv X pins σ H s' → Rep W F H ((dGet kvs k).getD .non) v → RelV v w' → Q w' s') : wpAny (model X.prog X.w) A (call (.builtin "dict.get") [.ref a, u]) Q E s := by
  have ht := h.typeIs I
  obtain ⟨_, _, _, _, hd⟩ := h.raw I
  have h0 : Rep W F H .non V.non := by simp only [Rep]
  rcases h.find hK hP hw I hk r ry with ⟨vs, dd, hi, ov, h1, h2⟩ | ⟨b, xs, rfl, hi, dd, ov, h1, h2⟩
  · exact call_meetsIn PySem.F.slot_dict_get ht PySem.F.entry_dict_get (PySem.F.args_dict_get_2 _ _) (meets_dict_get (mixKind X.prog X.w) a hi hd) ⟨_, dd.mapOf, q _ _ _ (I.tok _) (h1.getD h0) (h2.getD rfl)⟩
  · exact call_meetsIn PySem.F.slot_dict_get ht PySem.F.entry_dict_get (PySem.F.args_dict_get_2 _ _) (meetsH_dict_get (nestedKind X.prog X.w) a b hd) ⟨room8 hu, nkD k, xs, hi, dd, q _ _ _ (I.tok _) (h1.getD h0) (h2.getD rfl)⟩
theorem dic_get2 {Q : Value → Shared → Prop} {x : D} {z : V} {c : Value} (hK : X.K = W.K) (hP : X.prog = W.P) (hw : X.w = W.w) (hu : A.units + 64 < cLine) (I : Inv X pins σ H s) (h : Dic W F H kvs a) (hk : keysOk kvs k = true) (r : Rep W F H k y) (ry : RelV y u) (rx : Rep W F H x z) (rz : RelV z c)
    (q : ∀ v w' s', Inv X pins σ H s' → Rep W F H ((dGet kvs k).getD x) v → RelV v w' → Q w' s') : wpAny (model X.prog X.w) A (call (.builtin "dict.get") [.ref a, u, c]) Q E s := by
  have ht := h.typeIs I
  obtain ⟨_, _, _, _, hd⟩ := h.raw I
  rcases h.find hK hP hw I hk r ry with ⟨vs, dd, hi, ov, h1, h2⟩ | ⟨b, xs, rfl, hi, dd, ov, h1, h2⟩
  · exact call_meetsIn PySem.F.slot_dict_get ht PySem.F.entry_dict_get (PySem.F.args_dict_get_3 _ _ _) (meets_dict_get_default (mixKind X.prog X.w) a hi hd c) ⟨_, dd.mapOf, q _ _ _ (I.tok _) (h1.getD rx) (h2.getD rz)⟩
  · exact call_meetsIn PySem.F.slot_dict_get ht PySem.F.entry_dict_get (PySem.F.args_dict_get_3 _ _ _) (meetsH_dict_get_default (nestedKind X.prog X.w) a b hd c) ⟨room8 hu, nkD k, xs, hi, dd, q _ _ _ (I.tok _) (h1.getD rx) (h2.getD rz)⟩
theorem dic_len {Q : Value → Shared → Prop} (I : Inv X pins σ H s) (h : Dic W F H kvs a) (q : ∀ t s', Inv X pins σ H s' → Q (.int kvs.length t) s') : wpAny (model X.prog X.w) A (call (.builtin "len") [.ref a]) Q E s := by
  obtain ⟨arr, ep, hr, hz, hd⟩ := h.raw I
  obtain ⟨o, us, _, ⟨_, hl, _⟩, h3⟩ := h
  have hn : kvs.length ≤ sizeLine := by rw [← h3.length]; exact hl
  refine PyProof.Rows.call_len_slot (n := arr.size) hr.typeIs PySem.F.slot_dict_len (fun Q' hq => call_len_raw hd hr hq) (by omega) (by rw [hz]; rw [sizeLine_eq] at hn; omega) ?_
  rw [hz]
  exact q _ _ (I.tok _)
end
end Ip

/-! IpS: dicts: storing, making. -/
namespace Ip
open PySem PySem.Spec PyProof.Rows L2
section
variable {W : Wd} {F : Addr → Prop} {H : Hp} {X : Cx} {pins : List (Addr × Obj)} {σ : L2.St} {s : Shared} {kvs : List (D × D)} {a : Addr} {k v : D} {y x : V} {u r : Value} {A : Around} {E : Value → Shared → Prop}
theorem nk_put (hk : keysOk kvs k = true) : ((dPut kvs k v).map fun p => nkD p.1) = if (kvs.any fun p => eqD p.1 k) = true then kvs.map (fun p => nkD p.1) else kvs.map (fun p => nkD p.1) ++ [nkD k] := by
  unfold dPut
  split
  · rw [List.map_map]
    apply List.map_congr_left
    intro p _
    simp only [Function.comp]
    split <;> rfl
  · rw [List.map_append]
    rfl
theorem leaf_any (hk : isKey k = true) : ∀ {kvs : List (D × D)} {es : List (Key × V)}, (kvs.all fun p => isKey p.1) = true → es.map (·.1) = kvs.map (fun p => keyD p.1) → (kvs.any fun p => eqD p.1 k) = es.any fun e => decide (e.1 = keyD k)
  | [], [], _, _ => rfl
  | [], _ :: _, _, h => by cases h
  | _ :: _, [], _, h => by cases h
  | p :: kvs, e :: es, ha, h => by
    rw [List.all_cons, Bool.and_eq_true] at ha
    have e1 : e.1 = keyD p.1 := (List.cons.inj h).1
    rw [List.any_cons, List.any_cons, leaf_any hk ha.2 (List.cons.inj h).2, eqD_key ha.1 hk, e1]
theorem leaf_repl (hk : isKey k = true) (rx : Rep W F H v x) : ∀ {kvs : List (D × D)} {es : List (Key × V)}, (kvs.all fun p => isKey p.1) = true → RepE W F H kvs (es.map fun e => (kV e.1, e.2)) →
    RepE W F H (kvs.map fun p => if eqD p.1 k = true then (p.1, v) else p) ((es.map fun e => if e.1 = keyD k then (e.1, x) else e).map fun e => (kV e.1, e.2))
  | [], es, _, h => by
    simp only [RepE, List.map_eq_nil_iff] at h
    subst h
    simp [RepE]
  | p :: kvs, es, ha, h => by
    have hks := leaf_keys ha h
    simp only [List.all_cons, Bool.and_eq_true] at ha
    simp only [RepE] at h
    obtain ⟨q, r', e, h1, h2⟩ := h
    cases es with
    | nil => cases e
    | cons e0 es =>
      rw [List.map_cons] at e
      obtain ⟨rfl, rfl⟩ := List.cons.inj e
      obtain ⟨k0, x0⟩ := p
      simp only [RepP] at h1
      have e0k : e0.1 = keyD k0 := (List.cons.inj hks).1
      have he := eqD_key ha.1 hk
      simp only [List.map_cons, RepE]
      refine ⟨_, _, rfl, ?_, leaf_repl hk rx ha.2 h2⟩
      dsimp only at he
      by_cases c : keyD k0 = keyD k
      · rw [if_pos (by rw [he, decide_eq_true c]), if_pos (by rw [e0k]; exact c)]
        simp only [RepP]
        exact ⟨h1.1, rx⟩
      · rw [if_neg (by rw [he, decide_eq_false c]; decide), if_neg (by rw [e0k]; exact c)]
        simp only [RepP]
        exact h1
theorem leaf_put (hk : isKey k = true) (ha : (kvs.all fun p => isKey p.1) = true) {es : List (Key × V)} (h : RepE W F H kvs (es.map fun e => (kV e.1, e.2))) (rk : Rep W F H k y) (rx : Rep W F H v x) : RepE W F H (dPut kvs k v) ((putK es (keyD k) x).map fun e => (kV e.1, e.2)) := by
  unfold dPut putK
  rw [leaf_any hk ha (leaf_keys ha h)]
  split
  · exact leaf_repl hk rx ha h
  · rw [List.map_append]
    refine RepE.append h ?_
    simp only [RepE, List.map_cons, List.map_nil]
    refine ⟨_, _, rfl, ?_, rfl⟩
    simp only [RepP]
    exact ⟨by rw [← rep_key hk rk]; exact rk, rx⟩
/-- the entry at a tuple stored -/
def putT (es : List (NestedKey × Addr × V)) (nk : NestedKey) (b : Addr) (x : V) : List (NestedKey × Addr × V) := if (es.any fun e => decide (e.1 = nk)) = true then es.map fun e => if e.1 = nk then (e.1, e.2.1, x) else e else es ++ [(nk, b, x)]
theorem tup_any (hk : isTK k = true) : ∀ {kvs : List (D × D)} {es : List (NestedKey × Addr × V)}, (kvs.all fun p => isTK p.1) = true → es.map (·.1) = kvs.map (fun p => nkD p.1) → (kvs.any fun p => eqD p.1 k) = es.any fun e => decide (e.1 = nkD k)
  | [], [], _, _ => rfl
  | [], _ :: _, _, h => by cases h
  | _ :: _, [], _, h => by cases h
  | p :: kvs, e :: es, ha, h => by
    rw [List.all_cons, Bool.and_eq_true] at ha
    have e1 : e.1 = nkD p.1 := (List.cons.inj h).1
    rw [List.any_cons, List.any_cons, tup_any hk ha.2 (List.cons.inj h).2, eqD_nk 8 8 _ _ (isTK_iff.mp ha.1).2 (isTK_iff.mp hk).2, e1]
theorem tup_repl (hk : isTK k = true) (rx : Rep W F H v x) : ∀ {kvs : List (D × D)} {es : List (NestedKey × Addr × V)}, (kvs.all fun p => isTK p.1) = true → es.map (·.1) = kvs.map (fun p => nkD p.1) → RepE W F H kvs (es.map fun e => (.ref e.2.1, e.2.2)) →
    RepE W F H (kvs.map fun p => if eqD p.1 k = true then (p.1, v) else p) ((es.map fun e => if e.1 = nkD k then (e.1, e.2.1, x) else e).map fun e => (.ref e.2.1, e.2.2))
  | [], es, _, _, h => by
    simp only [RepE, List.map_eq_nil_iff] at h
    subst h
    simp [RepE]
  | p :: kvs, es, ha, hks, h => by
    simp only [List.all_cons, Bool.and_eq_true] at ha
    simp only [RepE] at h
    obtain ⟨q, r', e, h1, h2⟩ := h
    cases es with
    | nil => cases e
    | cons e0 es =>
      rw [List.map_cons] at e
      obtain ⟨rfl, rfl⟩ := List.cons.inj e
      obtain ⟨k0, x0⟩ := p
      simp only [RepP] at h1
      have e0k : e0.1 = nkD k0 := (List.cons.inj hks).1
      have he := eqD_nk 8 8 k0 k (isTK_iff.mp ha.1).2 (isTK_iff.mp hk).2
      simp only [List.map_cons, RepE]
      refine ⟨_, _, rfl, ?_, tup_repl hk rx ha.2 (List.cons.inj hks).2 h2⟩
      by_cases c : nkD k0 = nkD k
      · rw [if_pos (by rw [he, decide_eq_true c]), if_pos (by rw [e0k]; exact c)]
        simp only [RepP]
        exact ⟨h1.1, rx⟩
      · rw [if_neg (by rw [he, decide_eq_false c]; decide), if_neg (by rw [e0k]; exact c)]
        simp only [RepP]
        exact h1
theorem tup_put (hk : isTK k = true) (ha : (kvs.all fun p => isTK p.1) = true) {es : List (NestedKey × Addr × V)} {b : Addr} (hks : es.map (·.1) = kvs.map (fun p => nkD p.1)) (h : RepE W F H kvs (es.map fun e => (.ref e.2.1, e.2.2))) (rk : Rep W F H k (.ref b)) (rx : Rep W F H v x) :
    RepE W F H (dPut kvs k v) ((putT es (nkD k) b x).map fun e => (.ref e.2.1, e.2.2)) ∧ (putT es (nkD k) b x).map (·.1) = (dPut kvs k v).map fun p => nkD p.1 := by
  unfold dPut putT
  rw [tup_any hk ha hks]
  split
  · refine ⟨tup_repl hk rx ha hks h, ?_⟩
    rw [List.map_map, List.map_map]
    have e1 : es.map ((fun e => e.1) ∘ fun e => if e.1 = nkD k then (e.1, e.2.1, x) else e) = es.map (·.1) := by
      apply List.map_congr_left
      intro e _
      simp only [Function.comp]
      split <;> rfl
    have e2 : kvs.map ((fun p => nkD p.1) ∘ fun p => if eqD p.1 k = true then (p.1, v) else p) = kvs.map fun p => nkD p.1 := by
      apply List.map_congr_left
      intro p _
      simp only [Function.comp]
      split <;> rfl
    rw [e1, e2, hks]
  · rw [List.map_append, List.map_append, List.map_append, hks]
    refine ⟨RepE.append h ?_, rfl⟩
    simp only [RepE, List.map_cons, List.map_nil]
    refine ⟨_, _, rfl, ?_, rfl⟩
    simp only [RepP]
    exact ⟨rk, rx⟩
theorem putT_pair {nk : NestedKey} {b : Addr} (rv : RelV x r) : ∀ {es : List (NestedKey × Addr × V)} {ys : List (NestedKey × Addr × Value)}, Paired (fun p q => p.1 = q.1 ∧ p.2.1 = q.2.1 ∧ RelV p.2.2 q.2.2) es ys → Paired (fun p q => p.1 = q.1 ∧ p.2.1 = q.2.1 ∧ RelV p.2.2 q.2.2) (putT es nk b x) (storedH ys nk b r) := by
  intro es ys hp
  have hany : (es.any fun e => decide (e.1 = nk)) = (atKey ys nk).isSome := by
    induction hp with
    | nil => rfl
    | @cons p q ps qs hq _ ih =>
      unfold atKey at ih ⊢
      rw [List.any_cons]
      by_cases c : p.1 = nk
      · rw [List.find?_cons_of_pos (by rw [← hq.1]; simpa using c), decide_eq_true c]
        rfl
      · rw [List.find?_cons_of_neg (by rw [← hq.1]; simpa using c), decide_eq_false c, ← ih]
        rfl
  unfold putT storedH
  rw [hany]
  split
  · clear hany
    rename_i h0
    clear h0
    induction hp with
    | nil => exact .nil
    | @cons p q ps qs hq _ ih =>
      rw [List.map_cons, List.map_cons]
      refine .cons ?_ ih
      unfold putAt
      by_cases c : p.1 = nk
      · rw [if_pos c, if_pos (by rw [← hq.1]; exact c)]
        exact ⟨hq.1, hq.2.1, rv⟩
      · rw [if_neg c, if_neg (by rw [← hq.1]; exact c)]
        exact hq
  · have app : ∀ {l1 : List (NestedKey × Addr × V)} {l2 : List (NestedKey × Addr × Value)}, Paired (fun p q => p.1 = q.1 ∧ p.2.1 = q.2.1 ∧ RelV p.2.2 q.2.2) l1 l2 → Paired (fun p q => p.1 = q.1 ∧ p.2.1 = q.2.1 ∧ RelV p.2.2 q.2.2) (l1 ++ [(nk, b, x)]) (l2 ++ [(nk, b, r)]) := by
      intro l1 l2 h
      induction h with
      | nil => exact .cons ⟨rfl, rfl, rv⟩ .nil
      | cons h _ ih => exact .cons h ih
    exact app hp
theorem putK_len (es : List (Key × V)) (key : Key) : (putK es key x).length ≤ es.length + 1 := length_putK es key x
theorem putT_len (es : List (NestedKey × Addr × V)) (nk : NestedKey) (b : Addr) : (putT es nk b x).length ≤ es.length + 1 := by
  unfold putT
  split
  · rw [List.length_map]; omega
  · rw [List.length_append]; simp
/-- d[k] = v, of a dict of one's own -/
theorem dic_set {Q : Unit → Shared → Prop} (hK : X.K = W.K) (hP : X.prog = W.P) (hw : X.w = W.w) (hu : A.units + 64 < cLine) (I : Inv X pins σ H s) (h : Dic W F H kvs a) (hk : keysOk kvs k = true) (hz : kvs.length < szL) (rk : Rep W F H k y) (ry : RelV y u) (rx : Rep W F H v x) (rr : RelV x r)
    (q : ∀ o' us' s', Inv X pins σ (upd H a (pin a o')) s' → DO W.P W.w a o' ((dPut kvs k v).map fun p => nkD p.1) us' → RepE W F H (dPut kvs k v) us' → Q () s') : wpAny (model X.prog X.w) A (setItem (.ref a) u r) Q E s := by
  obtain ⟨o, us, h1, h2, h3⟩ := h
  have e1 := pin_of I h1
  have hd := h2.1
  unfold keysOk at hk
  rw [Bool.or_eq_true, Bool.and_eq_true, Bool.and_eq_true] at hk
  have wr : ∀ (h' : Heap) (o' : Obj) (t : Nat), h'.get? a = some o' → Heap.SameBut a s.heap h' → Inv X pins σ (upd H a (pin a o')) { s with heap := h', toks := t } := fun h' o' t he hs =>
    I.write (x := a) (e := a) (by rw [h1]; exact True.intro) (.inl rfl) (fun b q hb z => (hs.2 b hb).trans z) ⟨o', he⟩ ⟨he, ⟨o', he⟩, fun h1 h2 p st => st _ p⟩
  have hl : us.length = kvs.length := h3.length
  have sz : sizeLine = szL := szL_eq.symm
  rcases hk with ⟨k1, k2⟩ | ⟨k1, k2⟩
  · obtain ⟨es, rfl, arr, ep, vs, x1, x2, x3, x4, x5, x6⟩ := h2.leaf k2 h3
    rw [List.length_map] at hl
    have hvs := x6.length
    refine wpAny_setItem_pairs (knd := mixKind X.prog X.w) (k := keyD k) (kvs := vs) (hsz := by omega) (kV_is (by rw [← rep_key k1 rk]; exact ry)) ⟨o, arr, ep, e1, x1, x2, by rw [hP, hw]; exact x3, by rw [hP, hw]; exact x4, x5⟩ fun h' dd' hs => ?_
    obtain ⟨o', arr', ep', g1, g2, g3, g4, g5, g6⟩ := dd'
    rw [hP, hw] at g4 g5
    refine q o' _ _ (wr h' o' _ g1 hs) ⟨hd, ?_, .inl ⟨putK es (keyD k) x, rfl, arr', ep', _, g2, g3, g4, g5, g6, x6.put _ rr⟩⟩ (leaf_put k1 k2 h3 rk rx)
    rw [List.length_map]
    have := putK_len (x := x) es (keyD k)
    omega
  · obtain ⟨es, rfl, hks, arr, ep, ys, x1, x2, x3, x4, x5⟩ := h2.tups k2 h3
    rw [List.length_map] at hl
    have hys := Paired.length x5
    have fd : Dic W F H kvs a := ⟨o, _, h1, h2, h3⟩
    obtain ⟨b, rfl, rfl, nk⟩ := nested_key_of hK I k1 rk ry
    have hDH : s.heap.DictOfH (nestedKind X.prog X.w) a ys := by
      refine ⟨o, arr, ep, e1, x1, x2, by rw [hP, hw]; exact x3, ?_, x4⟩
      exact tups_stand hK I k2 hks h3 x5
    refine wpAny_setItem_heap (hsz := by omega) (room8 hu) nk hDH fun h' dd' hs => ?_
    obtain ⟨o', arr', ep', g1, g2, g3, g4, _, g6⟩ := dd'
    rw [hP, hw] at g4
    obtain ⟨p1, p2⟩ := tup_put (x := x) k1 k2 hks h3 rk rx
    refine q o' _ _ (wr h' o' _ g1 hs) ⟨hd, ?_, .inr ⟨putT es (nkD k) b x, rfl, p2, arr', ep', _, g2, g3, g4, g6, putT_pair rr x5⟩⟩ p1
    rw [List.length_map]
    have := putT_len (x := x) es (nkD k) b
    omega
/-- {} -/
theorem dic_new {P : Program} {w : World} {H : Hp} (h : Heap) (hb : sysModules < h.objs.size) : ObjOk P w H (h.push { cls := .type "dict", data := .dict #[] }) h.objs.size (pin h.objs.size { cls := .type "dict", data := .dict #[] }) ∧
    DO W.P W.w h.objs.size { cls := .type "dict", data := .dict #[] } [] [] := by
  have e : (h.push { cls := .type "dict", data := .dict #[] }).get? h.objs.size = some { cls := .type "dict", data := .dict #[] } := Heap.get?_push_size _ rfl
  refine ⟨⟨e, ⟨_, e⟩, fun h1 h2 p st => st _ p⟩, beq_eq_false_iff_ne.mpr (Ne.symm (Nat.ne_of_lt hb)), Nat.zero_le _, .inl ⟨[], rfl, #[], 0, [], ⟨rfl, rfl, rfl⟩, rfl, ?_, ?_, List.nodup_nil, .nil⟩⟩
  · intro e he
    simp at he
  · exact .nil
/-! ### the entries, one by one -/
theorem rel_of_keyIs {k : Key} {u : Value} (h : keyIs k u = true) : RelV (kV k) u := by
  rcases keyIs_shape h with ⟨i, t, rfl, rfl⟩ | ⟨z, t, rfl, rfl⟩
  · exact ⟨t, rfl⟩
  · exact ⟨t, rfl⟩
theorem entries_leaf {P : Program} {w : World} : ∀ {es : List (Key × V)} {vs : List (Key × Value)} {l : List DictEntry}, KV es vs → Pairs (mixKind P w) l vs → Paired (fun (u : V × V) (e : DictEntry) => RelV u.1 e.key ∧ RelV u.2 e.val) (es.map fun e => (kV e.1, e.2)) l
  | _, _, _, .nil, .nil => .nil
  | _, _, _, .cons h t, .cons q1 q2 q3 => .cons ⟨rel_of_keyIs (by rw [h.1]; exact q1), by rw [q2]; exact h.2⟩ (entries_leaf t q3)
theorem entries_tup {P : Program} {w : World} : ∀ {es : List (NestedKey × Addr × V)} {ys : List (NestedKey × Addr × Value)}, Paired (fun p q => p.1 = q.1 ∧ p.2.1 = q.2.1 ∧ RelV p.2.2 q.2.2) es ys → Paired (fun (u : V × V) (e : DictEntry) => RelV u.1 e.key ∧ RelV u.2 e.val) (es.map fun e => (.ref e.2.1, e.2.2)) (ys.map (entryOfKey (nestedKind P w)))
  | _, _, .nil => .nil
  | _, _, .cons h t => .cons ⟨by show _ = _; rw [h.2.1]; rfl, h.2.2⟩ (entries_tup t)
theorem DO.entries {P : Program} {w : World} {o : Obj} {ks : List NestedKey} {us : List (V × V)} (d : DO P w a o ks us) : ∃ arr ep, o.data = .dict arr ep ∧ Paired (fun (u : V × V) (e : DictEntry) => RelV u.1 e.key ∧ RelV u.2 e.val) us arr.toList := by
  obtain ⟨_, _, ⟨es, rfl, arr, ep, vs, x1, x2, _, x4, _, x6⟩ | ⟨es, rfl, _, arr, ep, ys, x1, x2, x3, _, x5⟩⟩ := d
  · exact ⟨arr, ep, x2, entries_leaf x6 x4⟩
  · exact ⟨arr, ep, x2, by rw [x3]; exact entries_tup x5⟩
theorem RepE.keys : ∀ {kvs : List (D × D)} {us : List (V × V)}, RepE W F H kvs us → RepL W F H (dKeys kvs) (us.map (·.1))
  | [], us, h => by simp only [RepE] at h; rw [h]; rfl
  | (k, x) :: kvs, us, h => by
    simp only [RepE] at h
    obtain ⟨q, r, rfl, h1, h2⟩ := h
    simp only [RepP] at h1
    exact ⟨q.1, _, rfl, h1.1, RepE.keys h2⟩
theorem RepE.vals : ∀ {kvs : List (D × D)} {us : List (V × V)}, RepE W F H kvs us → RepL W F H (kvs.map (·.2)) (us.map (·.2))
  | [], us, h => by simp only [RepE] at h; rw [h]; rfl
  | (k, x) :: kvs, us, h => by
    simp only [RepE] at h
    obtain ⟨q, r, rfl, h1, h2⟩ := h
    simp only [RepP] at h1
    exact ⟨q.2, _, rfl, h1.2, RepE.vals h2⟩
theorem vals_keys : ∀ {us : List (V × V)} {l : List DictEntry}, Paired (fun (u : V × V) (e : DictEntry) => RelV u.1 e.key ∧ RelV u.2 e.val) us l → Vals (us.map (·.1)) (l.map (·.key)) ∧ Vals (us.map (·.2)) (l.map (·.val))
  | _, _, .nil => ⟨.nil, .nil⟩
  | _, _, .cons h t => ⟨.cons h.1 (vals_keys t).1, .cons h.2 (vals_keys t).2⟩
/-- a dict's entries as they are read one by one -/
theorem Dic.entries (I : Inv X pins σ H s) (h : Dic W F H kvs a) : ∃ arr ep us, s.heap.DictRaw a arr ep ∧ (a == sysModules) = false ∧ arr.size = kvs.length ∧ us.length = kvs.length ∧ us.length ≤ sizeLine ∧ RepE W F H kvs us ∧ Paired (fun (u : V × V) (e : DictEntry) => RelV u.1 e.key ∧ RelV u.2 e.val) us arr.toList := by
  obtain ⟨o, us, h1, h2, h3⟩ := h
  obtain ⟨x1, _⟩ := h2.exact
  obtain ⟨arr, ep, x2, x3⟩ := h2.entries
  have hl := Paired.length x3
  have hr := h3.length
  exact ⟨arr, ep, us, ⟨o, pin_of I h1, x1, x2⟩, h2.1, by rw [← hr, hl, Array.length_toList], hr, h2.2.1, h3, x3⟩
theorem items_keys {arr : Array DictEntry} {acc : Array Value} (h : ItemsOf (fun i v => ∃ hi : i < arr.size, v = arr[i].key) acc arr.size) : acc.toList = arr.toList.map (·.key) := by
  obtain ⟨h1, h2⟩ := h
  apply List.ext_getElem?
  intro i
  rw [List.getElem?_map, Array.getElem?_toList, Array.getElem?_toList]
  by_cases hi : i < arr.size
  · obtain ⟨hi', e⟩ := h2 i acc[i] (Array.getElem?_eq_getElem (by omega))
    rw [Array.getElem?_eq_getElem (by omega), Array.getElem?_eq_getElem hi, e]
    rfl
  · rw [Array.getElem?_eq_none (by omega), Array.getElem?_eq_none (by omega)]
    rfl
end
end Ip

/-! IpD: the operations' rules. -/
namespace Ip
open PySem PySem.Spec PyProof.Rows L2

/-- what all readings know of the frozen -/
abbrev Fok (F : Addr → Prop) (H : Hp) : Prop := ∀ a, F a → H a ≠ none

/-! ### t * k for a tuple: once, and not at all -/
theorem tuple_mul1 (l : Addr) (items : Array Value) (n : Nat) (dd : Option Addr) (sl : Array (Option Value)) (x : Int) (u : Tok) (c0 : (decide (x < -(2 ^ 63)) || decide (x ≥ 2 ^ 63)) = false) (c1 : (items.isEmpty || x == 1) = true) :
    Meets (Builtin.«tuple.__mul__» ⟨[.ref l, .int x u], []⟩) (fun _ R s => s.heap.get? l = some { cls := .type "tuple", dict := dd, data := .seq items n, slots := sl } ∧ R (.ok (.ret (Value.ref l))) s) :=
  .of_wp fun prog w A R s h => by
    obtain ⟨hp, g, d, tk, os⟩ := s
    obtain ⟨hl, h⟩ := h
    have f1 := AutoSeq1.idx_int
    wp_walk using wpAny_loadPart' hl
    refine wpAny_ite_false (decide_eq_false (by rw [c0]; exact Bool.false_ne_true)) ?_
    wp_walk using wpAny_loadPart' hl
    exact ⟨_, rfl, h⟩
theorem op_rep1 {X : Cx} : OpR X (binaryOp .Mult) (fun x y H Q => ∃ l k xs, x = .ref l ∧ y = .int k ∧ SqT X.K H l xs ∧ 1 ≤ k ∧ k ≤ 1000 ∧ (xs = [] ∨ k = 1) ∧ Q (.ref l) H) := by
  intro pins s σ H x y v u Q I rx ry h
  obtain ⟨l, k, xs, rfl, rfl, hT, h1, h2, h3, q⟩ := h
  cases rx
  obtain ⟨t, rfl⟩ := ry
  obtain ⟨its, r, ⟨⟨cls, dd, data, sl⟩, ho, hc, n, hd⟩, hs⟩ := I.tuple hT
  simp only at hc hd
  subst hc hd
  have hle : its.length = xs.length := r.length.symm
  have c0 : (decide (k < -(2 ^ 63)) || decide (k ≥ 2 ^ 63)) = false := by
    rw [decide_eq_false (by omega), decide_eq_false (by omega)] <;> rfl
  have c1 : (its.toArray.isEmpty || k == 1) = true := by
    rcases h3 with e | e
    · subst e
      have : its = [] := List.eq_nil_of_length_eq_zero hle
      subst this
      rfl
    · subst e
      simp
  exact wpAny_binaryOp_repeat_ref (T := "tuple") (U := "int") (by decide) ⟨_, ho, rfl⟩ (fun s' => typeIs_int s' k t) noFill_tuple_mul F.fills_int_mul F.slot_int_rmul repeat_tuple F.slot_int_index.lookup
    (call_meets F.slot_int_rmul (typeIs_int s k t) F.entry_int_rmul (F.args_int_rmul_2 _ _) (int_rmul_tuple k t l its.toArray n dd sl)
      ⟨ho, rfl, ⟨_, ho, rfl⟩, call_meets F.slot_tuple_mul ⟨_, ho, rfl⟩ F.entry_tuple_mul (F.args_tuple_mul_2 _ _) (tuple_mul1 l its.toArray n dd sl k t c0 c1) ⟨ho, .ref l, H, I, rfl, q⟩⟩)

/-! ### two-place operations -/
def opOf : Op → Operator
  | .add => .Add | .sub => .Sub | .mul => .Mult | .fdiv => .FloorDiv | .mod => .Mod | .pow => .Pow
section
variable {X : Cx} {W : Wd}
/-- the operation on data -/
def rBin (W : Wd) (o : Op) : R2 := fun x y H Q => ∃ F a b d, Fok F H ∧ Top W F H a x ∧ Top W F H b y ∧ binD o a b = some d ∧ ∀ v H', New W F H d v H' → Q v H'
theorem mulOk_C {i j : Int} (h : mulOk i j = true) : CMul i j := by
  unfold mulOk at h
  simp only [Bool.or_eq_true, Bool.and_eq_true, decide_eq_true_eq] at h
  exact h
theorem add_strs (x y : List Nat) : (⟨x.toArray⟩ : Str) ++ (⟨y.toArray⟩ : Str) = ⟨(x ++ y).toArray⟩ := by
  show (⟨x.toArray ++ y.toArray⟩ : Str) = _
  simp
theorem op_bin (hK : X.K = W.K) (o : Op) : OpR X (binaryOp (opOf o)) (rBin W o) := by
  intro pins s σ H x y v u Q I rx ry h
  obtain ⟨F, a, b, d, f2, ha, hb, e, q⟩ := h
  unfold binD at e
  split at e
  · cases e
    rw [ha.int] at rx; rw [hb.int] at ry
    exact op_add pins s σ H _ _ v u Q I rx ry ⟨_, _, rfl, rfl, q _ _ (.now rfl rfl)⟩
  · split at e
    · rename_i x' y' hz
      cases e
      rw [ha.str] at rx; rw [hb.str] at ry
      refine op_add_str pins s σ H _ _ v u Q I rx ry ⟨_, _, rfl, rfl, ?_, q _ _ (.now ?_ rfl)⟩
      · rw [← szL_eq]; exact hz
      · rw [add_strs]; rfl
    · cases e
  · split at e
    · rename_i xs ys hz
      cases e
      obtain ⟨p, vs, rfl, z1, t1, r1⟩ := ha.tup
      obtain ⟨p', vs', rfl, z2, t2, r2⟩ := hb.tup
      have l1 := r1.length
      have l2 := r2.length
      have hz' : vs.length + vs'.length ≤ sizeLine := by rw [← szL_eq]; omega
      refine op_catA pins s σ H _ _ v u Q I rx ry ⟨p, p', vs, vs', rfl, rfl, hK ▸ tup_sq t1, hK ▸ tup_sq t2, hz', fun e1 => q _ _ (.now ?_ rfl), fun _ e2 => q _ _ (.now ?_ rfl), fun _ _ c hc => q _ _ (.tup f2 hc (by rw [List.length_append]; exact hz') (RepL.append r1 r2))⟩
      · subst e1
        have : xs = [] := List.eq_nil_of_length_eq_zero l1.symm
        subst this
        simp only [Rep]
        exact ⟨p', vs', rfl, z2, t2, r2⟩
      · subst e2
        have : ys = [] := List.eq_nil_of_length_eq_zero l2.symm
        subst this
        rw [List.append_nil]
        simp only [Rep]
        exact ⟨p, vs, rfl, z1, t1, r1⟩
    · cases e
  · split at e
    · rename_i xs ys hz
      cases e
      obtain ⟨p, vs, rfl, z1, t1, r1⟩ := ha.lst
      obtain ⟨p', vs', rfl, z2, t2, r2⟩ := hb.lst
      have l1 := r1.length
      have l2 := r2.length
      have hz' : vs.length + vs'.length ≤ sizeLine := by rw [← szL_eq]; omega
      exact op_cat pins s σ H _ _ v u Q I rx ry ⟨p, p', vs, vs', rfl, rfl, t1, t2, hz', fun c hc => q _ _ (.lst f2 hc (by rw [List.length_append]; exact hz') (RepL.append r1 r2))⟩
    · cases e
  · cases e
    rw [ha.int] at rx; rw [hb.int] at ry
    exact op_sub pins s σ H _ _ v u Q I rx ry ⟨_, _, rfl, rfl, q _ _ (.now rfl rfl)⟩
  · split at e
    · rename_i hm
      cases e
      rw [ha.int] at rx; rw [hb.int] at ry
      exact op_mul pins s σ H _ _ v u Q I rx ry ⟨_, _, rfl, rfl, mulOk_C hm, q _ _ (.now rfl rfl)⟩
    · cases e
  · split at e
    · rename_i xs k hz
      cases e
      obtain ⟨p, vs, rfl, z1, t1, r1⟩ := ha.tup
      rw [hb.int] at ry
      have l1 := r1.length
      by_cases c : vs = [] ∨ k = 1
      · refine op_rep1 pins s σ H _ _ v u Q I rx ry ⟨p, k, vs, rfl, rfl, hK ▸ tup_sq t1, hz.1, hz.2.1, c, q _ _ (.now ?_ rfl)⟩
        have : repL k xs = xs := by
          rcases c with c | c
          · subst c
            have : xs = [] := List.eq_nil_of_length_eq_zero l1.symm
            subst this
            simp [repL]
          · subst c
            simp [repL]
        rw [this]
        simp only [Rep]
        exact ⟨p, vs, rfl, z1, t1, r1⟩
      · refine op_repT pins s σ H _ _ v u Q I rx ry ⟨p, k, vs, rfl, rfl, hK ▸ tup_sq t1, fun z => c (.inl z), ?_, hz.2.1, by omega, fun a ha' => q _ _ (.tup f2 ha' ?_ (RepL.rep r1 k.toNat))⟩
        · have : k ≠ 1 := fun z => c (.inr z)
          omega
        · rw [PyProof.Rows.lm_len_rep_flat, sizeLine_eq]
          have a1 : k.toNat * vs.length ≤ 1000 * 1000 := Nat.mul_le_mul (by omega) (by omega)
          omega
    · cases e
  · split at e
    · rename_i xs k hz
      cases e
      obtain ⟨p, vs, rfl, z1, t1, r1⟩ := ha.lst
      rw [hb.int] at ry
      have l1 := r1.length
      have hz' : vs.length * k.toNat ≤ sizeLine := by rw [← szL_eq, l1]; exact hz.2.2
      exact op_rep pins s σ H _ _ v u Q I rx ry ⟨p, k, vs, rfl, rfl, t1, by omega, by omega, hz', fun a ha' => q _ _ (.lst f2 ha' (by rw [PyProof.Rows.lm_len_rep_flat, Nat.mul_comm]; exact hz') (RepL.rep r1 k.toNat))⟩
    · cases e
  · split at e
    · rename_i hm
      cases e
      rw [ha.int] at rx; rw [hb.int] at ry
      exact op_fdiv pins s σ H _ _ v u Q I rx ry ⟨_, _, rfl, rfl, hm, q _ _ (.now rfl rfl)⟩
    · cases e
  · split at e
    · rename_i hm
      cases e
      rw [ha.int] at rx; rw [hb.int] at ry
      exact op_mod pins s σ H _ _ v u Q I rx ry ⟨_, _, rfl, rfl, hm, q _ _ (.now rfl rfl)⟩
    · cases e
  · split at e
    · rename_i hm
      cases e
      rw [ha.int] at rx; rw [hb.int] at ry
      exact op_pow pins s σ H _ _ v u Q I rx ry ⟨_, _, rfl, rfl, ⟨hm.1, by omega, hm.2.2⟩, q _ _ (.now rfl rfl)⟩
    · cases e
  · cases e
end

/-! ### comparisons -/
def cpOf : Cp → CmpOp
  | .eq => .Eq | .ne => .NotEq | .lt => .Lt | .le => .LtE | .gt => .Gt | .ge => .GtE | .is => .Is | .isNot => .IsNot | .in_ => .In | .notIn => .NotIn
section
variable {X : Cx} {W : Wd}
def rCmp (W : Wd) (o : Cp) : R2 := fun x y H Q => ∃ F a b k, Fok F H ∧ Top W F H a x ∧ Top W F H b y ∧ cmpD o a b = some k ∧ Q (.bl k) H
theorem reads_of {F : Addr → Prop} {H : Hp} {pins : List (Addr × Obj)} {s : Shared} {σ : L2.St} {n : Nat} {d : D} {x : V} {v : Value} (hK : X.K = W.K) (I : Inv X pins σ H s) (h : Top W F H d x) (hp : pl n d = true) (r : RelV x v) : ∃ as, Reads s.heap v d.py as :=
  Dp.reads I d.py x v (hK ▸ Top.dp hp h) r
theorem depth_room {X : Cx} {n : Nat} (hu : X.A.units + 64 < cLine) {d e : D} (hd : pl 60 d = true) : X.A.units + min d.py.depth e.py.depth < cLine := by
  have := (pl_plain 60 d hd).2
  omega
theorem anyEq (x : D) (xs : List D) (hx : pl 60 x = true) (hxs : xs.all (pl 59) = true) : (pys xs).any (fun y => PyData.eqv y x.py) = xs.any fun y => eqD y x := by
  rw [pys_map, List.any_map]
  rw [List.all_eq_true] at hxs
  rw [Bool.eq_iff_iff, List.any_eq_true, List.any_eq_true]
  constructor
  · rintro ⟨y, hy, e⟩
    exact ⟨y, hy, by rw [← eqD_py 60 y x (pl_mono 59 60 y (by omega) (hxs y hy)) hx]; exact e⟩
  · rintro ⟨y, hy, e⟩
    exact ⟨y, hy, by show PyData.eqv y.py x.py = true; rw [eqD_py 60 y x (pl_mono 59 60 y (by omega) (hxs y hy)) hx]; exact e⟩
theorem in_data (hK : X.K = W.K) (hu : X.A.units + 64 < cLine) {F : Addr → Prop} {H : Hp} {pins : List (Addr × Obj)} {s : Shared} {σ : L2.St} {a : D} {xs : List D} {x y : V} {v u : Value} {b : D} (hb : b = .lst xs ∨ b = .tup xs)
    (I : Inv X pins σ H s) (rx : RelV x v) (ry : RelV y u) (ha : Top W F H a x) (hc : Top W F H b y) (h1 : pl 60 a = true) (h2 : xs.all (pl 59) = true) :
    (∀ Q : Value → Shared → Prop, Q (.bool (xs.any fun y => eqD y a)) s → wpAny (model X.prog X.w) X.A (compareOp .In v u) Q X.xe s) ∧
    (∀ Q : Value → Shared → Prop, Q (.bool (!xs.any fun y => eqD y a)) s → wpAny (model X.prog X.w) X.A (compareOp .NotIn v u) Q X.xe s) := by
  obtain ⟨as, r1⟩ := reads_of hK I ha h1 rx
  have hp := (pl_plain 60 a h1).1
  have hxs := pls_plain 59 xs h2
  have hu' : X.A.units + 1 + min (PyData.depthAll (pys xs)) a.py.depth < cLine := by omega
  rcases hb with e | e
  · subst e
    obtain ⟨bs, r2⟩ := reads_of hK I hc (n := 60) (by simpa [pl] using h2) ry
    simp only [D.py] at r2
    refine ⟨fun Q q => PySem.SeqAt.in_list_data r2 r1 hxs.1 hp hu' (by rw [anyEq a xs h1 h2]; exact q), fun Q q => PySem.SeqAt.notIn_list_data r2 r1 hxs.1 hp hu' (by rw [anyEq a xs h1 h2]; exact q)⟩
  · subst e
    obtain ⟨bs, r2⟩ := reads_of hK I hc (n := 60) (by simpa [pl] using h2) ry
    simp only [D.py] at r2
    refine ⟨fun Q q => PySem.SeqAt.in_tuple_data r2 r1 hxs.1 hp hu' (by rw [anyEq a xs h1 h2]; exact q), fun Q q => PySem.SeqAt.notIn_tuple_data r2 r1 hxs.1 hp hu' (by rw [anyEq a xs h1 h2]; exact q)⟩
/-- a key that is read stands for good -/
theorem top_key {F : Addr → Prop} {H : Hp} {kvs : List (D × D)} {a : D} {x : V} (hk : keysOk kvs a = true) (h : Top W F H a x) : Rep W F H a x := by
  cases a with
  | lst _ => simp [keysOk, isKey, isTK, isTupD] at hk
  | dic _ => simp [keysOk, isKey, isTK, isTupD] at hk
  | _ => exact h
theorem op_inD (hK : X.K = W.K) (hP : X.prog = W.P) (hw : X.w = W.w) (hu : X.A.units + 64 < cLine) {pins : List (Addr × Obj)} {s : Shared} {σ : L2.St} {H : Hp} {x y : V} {v u : Value} (I : Inv X pins σ H s) (rx : RelV x v) (ry : RelV y u) {F : Addr → Prop} {a b : D} {k : Bool} (ha : Top W F H a x) (hb : Top W F H b y) (e : inD a b = some k) :
    (∀ Q : VK, Q (.bl k) H → wpAny (model X.prog X.w) X.A (compareOp .In v u) (EP X pins σ Q) X.xe s) ∧
    (∀ Q : VK, Q (.bl (!k)) H → wpAny (model X.prog X.w) X.A (compareOp .NotIn v u) (EP X pins σ Q) X.xe s) := by
  unfold inD at e
  split at e
  · rename_i xs
    split at e
    · rename_i hp
      rw [Bool.and_eq_true] at hp
      cases e
      obtain ⟨g1, g2⟩ := in_data hK hu (.inl rfl) I rx ry ha hb hp.1 hp.2
      exact ⟨fun Q q => g1 _ ⟨.bl _, H, I, rfl, q⟩, fun Q q => g2 _ ⟨.bl _, H, I, rfl, q⟩⟩
    · cases e
  · rename_i xs
    split at e
    · rename_i hp
      rw [Bool.and_eq_true] at hp
      cases e
      obtain ⟨g1, g2⟩ := in_data hK hu (.inr rfl) I rx ry ha hb hp.1 hp.2
      exact ⟨fun Q q => g1 _ ⟨.bl _, H, I, rfl, q⟩, fun Q q => g2 _ ⟨.bl _, H, I, rfl, q⟩⟩
    · cases e
  · rename_i t
    split at e
    · rename_i c
      cases e
      rw [ha.str] at rx; rw [hb.str] at ry
      exact ⟨fun Q q => op_in_sign pins s σ H _ _ v u Q I rx ry ⟨c, ⟨t.toArray⟩, rfl, rfl, by simpa using q⟩, fun Q q => op_notIn_sign pins s σ H _ _ v u Q I rx ry ⟨c, ⟨t.toArray⟩, rfl, rfl, by simpa using q⟩⟩
    · cases e
  · rename_i kvs
    split at e
    · rename_i hk
      cases e
      obtain ⟨p, rfl, hd⟩ := hb.dic
      cases ry
      have rk := top_key hk ha
      exact ⟨fun Q q => dic_in hK hP hw hu I hd hk rk rx fun s' I' => ⟨.bl _, H, I', rfl, q⟩, fun Q q => dic_notIn hK hP hw hu I hd hk rk rx fun s' I' => ⟨.bl _, H, I', rfl, q⟩⟩
    · cases e
  · cases e
mutual
theorem alikeD_symm : ∀ a b : D, alikeD a b = true → alikeD b a = true
  | .lst xs, b, h => by
    cases b with
    | lst ys => simp only [alikeD] at h ⊢; exact alikeDs_symm xs ys h
    | _ => simp [alikeD] at h
  | .tup xs, b, h => by
    cases b with
    | tup ys => simp only [alikeD] at h ⊢; exact alikeDs_symm xs ys h
    | _ => simp [alikeD] at h
  | .non, b, h | .bl _, b, h | .int _, b, h | .str _, b, h | .dic _, b, h | .set _, b, h | .box, b, h | .fn _, b, h => by cases b <;> simp_all [alikeD]
theorem alikeDs_symm : ∀ xs ys : List D, alikeDs xs ys = true → alikeDs ys xs = true
  | [], [], _ => rfl
  | [], _ :: _, _ => by simp [alikeDs]
  | _ :: _, [], _ => by simp [alikeDs]
  | x :: xs, y :: ys, h => by
    simp only [alikeDs, Bool.and_eq_true] at h ⊢
    exact ⟨alikeD_symm x y h.1, alikeDs_symm xs ys h.2⟩
end
theorem isNon_top {F : Addr → Prop} {H : Hp} {a : D} {x : V} (h : Top W F H a x) : decide (x = .non) = isNon a := by
  cases a with
  | non => rw [h.non]; rfl
  | bl b => rw [h.bl]; rfl
  | int i => rw [h.int]; rfl
  | str s => rw [h.str]; rfl
  | tup xs => obtain ⟨a, vs, rfl, _⟩ := h.tup; rfl
  | lst xs => obtain ⟨a, vs, rfl, _⟩ := h.lst; rfl
  | box => rw [show x = .ref W.ba from h]; rfl
  | dic _ => obtain ⟨a, o, us, rfl, _⟩ := h; rfl
  | set _ => exact (show False from h).elim
  | fn _ => exact (show False from h).elim
theorem op_cmp (hK : X.K = W.K) (hP : X.prog = W.P) (hw : X.w = W.w) (hu : X.A.units + 64 < cLine) (o : Cp) : OpR X (compareOp (cpOf o)) (rCmp W o) := by
  intro pins s σ H x y v u Q I rx ry h
  obtain ⟨F, a, b, k, f2, ha, hb, e, q⟩ := h
  have fin : ∀ {k'}, some k' = some k → EP X pins σ Q (.bool k') s := fun {k'} z => by cases z; exact ⟨.bl k, H, I, rfl, q⟩
  unfold cmpD at e
  split at e
  · split at e
    · rename_i hp
      rw [Bool.and_eq_true] at hp
      obtain ⟨as, r1⟩ := reads_of hK I ha hp.1 rx
      obtain ⟨bs, r2⟩ := reads_of hK I hb hp.2 ry
      refine PySem.SeqAt.eq_plain r1 r2 (pl_plain 60 a hp.1).1 (pl_plain 60 b hp.2).1 (depth_room (n := 60) hu hp.1) ?_
      rw [eqD_py 60 a b hp.1 hp.2]
      exact fin e
    · cases e
  · split at e
    · rename_i hp
      rw [Bool.and_eq_true] at hp
      obtain ⟨as, r1⟩ := reads_of hK I ha hp.1 rx
      obtain ⟨bs, r2⟩ := reads_of hK I hb hp.2 ry
      refine PySem.SeqAt.ne_plain r1 r2 (pl_plain 60 a hp.1).1 (pl_plain 60 b hp.2).1 (depth_room (n := 60) hu hp.1) ?_
      rw [eqD_py 60 a b hp.1 hp.2]
      exact fin e
    · cases e
  all_goals try
    (split at e
     · rename_i hp
       unfold ordOk at hp
       simp only [Bool.and_eq_true] at hp
       obtain ⟨⟨⟨h1, h2⟩, h3⟩, h4⟩ := hp
       obtain ⟨as, r1⟩ := reads_of hK I ha h3 rx
       obtain ⟨bs, r2⟩ := reads_of hK I hb h4 ry
       have hal := alike_py a b h1
       have hal' : alikeD b a = true := alikeD_symm a b h1
       have hn : a.py ≠ .none := fun z => by cases a <;> simp_all [D.py, isNon, pl]
       first
         | exact PySem.W.lt_data r1 r2 hal hn (depth_room (n := 60) hu h3) (by rw [ltD_py 60 a b h3 h4 h1]; exact fin e)
         | exact PySem.W.gt_data r1 r2 hal hn (depth_room (n := 60) hu h3) (by rw [ltD_py 60 b a h4 h3 hal']; exact fin e)
         | exact PySem.W.le_data r1 r2 hal hn (depth_room (n := 60) hu h3) (by rw [ltD_py 60 b a h4 h3 hal']; exact fin e)
         | exact PySem.W.ge_data r1 r2 hal hn (depth_room (n := 60) hu h3) (by rw [ltD_py 60 a b h3 h4 h1]; exact fin e)
     · cases e)
  · rw [hb.non] at ry
    refine op_isN pins s σ H _ _ v u Q I rx ry ⟨rfl, ?_⟩
    cases e
    rw [isNon_top ha]
    exact q
  · rw [hb.non] at ry
    refine op_notN pins s σ H _ _ v u Q I rx ry ⟨rfl, ?_⟩
    cases e
    rw [isNon_top ha]
    exact q
  · rw [ha.bl] at rx; rw [hb.bl] at ry
    refine op_is_bl pins s σ H _ _ v u Q I rx ry ⟨_, _, rfl, rfl, ?_⟩
    cases e
    rw [← Bool.beq_eq_decide_eq]
    exact q
  · rw [ha.bl] at rx; rw [hb.bl] at ry
    refine op_isnot_bl pins s σ H _ _ v u Q I rx ry ⟨_, _, rfl, rfl, ?_⟩
    cases e
    rw [← Bool.beq_eq_decide_eq]
    exact q
  · exact (op_inD hK hP hw hu I rx ry ha hb e).1 Q q
  · cases z : inD a b with
    | none => rw [z] at e; cases e
    | some k' =>
      rw [z] at e
      cases e
      exact (op_inD hK hP hw hu I rx ry ha hb z).2 Q q
  · cases e
end

/-! ### places and slices -/
theorem ixP_eq (n : Nat) (i : Int) : ixP n i = ixN n i := rfl
theorem sIx_eq (n d : Nat) (o : Option Int) : sIx n d o = HT.sIx n d o := by cases o <;> rfl
section
variable {X : Cx} {W : Wd}
def rSub (W : Wd) : R2 := fun x y H Q => ∃ F a b d, Fok F H ∧ Top W F H a x ∧ Top W F H b y ∧ subD a b = some d ∧ ∀ v, Rep W F H d v → Q v H
/-- d[k] -/
theorem ix_dic {F : Addr → Prop} {H : Hp} {kvs : List (D × D)} {k d : D} {p : Addr} {y : V} {value slice : Expr} {pins : List (Addr × Obj)} {s : Shared} {σ : L2.St} {u : Value} {Q : VK} (hK : X.K = W.K) (hP : X.prog = W.P) (hw : X.w = W.w) (hu : X.A.units + 64 < cLine) (I : Inv X pins σ H s) (h : Dic W F H kvs p) (hk : keysOk kvs k = true) (r : Rep W F H k y) (ry : RelV y u) (hg : dGet kvs k = some d) (q : ∀ v, Rep W F H d v → Q v H)
    (hs : subscripted slice false (.ref p) u = operate [.ref p, u] (getItem (.ref p) u)) : wpAny (model X.prog X.w) X.A (subscriptTail value slice (.ref p) u) (EP X pins σ Q) X.xe s := by
  have hT := h.typeIs I
  have hl := PySem.F.slot_dict_getitem.lookup
  unfold subscriptTail
  refine wpAny_bind ?_
  rw [getitemInPython_of_ne hT.not_modules]
  refine wpAny_bind (wpAny_specialOf hT hl ?_)
  have fin : wpAny (model X.prog X.w) X.A (subscripted slice false (.ref p) u) (fun r s₃ => wpAny (model X.prog X.w) X.A (letTemporaryGo value (.ref p) r >>= fun _ => pure r) (EP X pins σ Q) X.xe s₃) X.xe s := by
    rw [hs]
    exact wpAny_operating (dic_get hK hP hw hu I h hk r ry hg fun v w' s' I' rv rw' => wpAny_bind (wpAny_letTemporaryGo (wpAny_pure ⟨v, H, I', rw', q v rv⟩)))
  first
    | exact wpAny_pure (wpAny_bind fin)
    | exact wpAny_bind (wpAny_pure (wpAny_bind fin))
    | exact wpAny_bind fin
theorem ix_sub (hK : X.K = W.K) (hP : X.prog = W.P) (hw : X.w = W.w) (hu : X.A.units + 64 < cLine) : IxR X (rSub W) := by
  intro value slice pins s σ H x y v u Q I rx ry h hs
  obtain ⟨F, a, b, d, f2, ha, hb, e, q⟩ := h
  by_cases hdic : ∃ kvs, a = .dic kvs
  · obtain ⟨kvs, rfl⟩ := hdic
    have e : (if keysOk kvs b then dGet kvs b else none) = some d := by
      cases b <;> exact e
    split at e
    · rename_i hk
      obtain ⟨p, rfl, hd⟩ := ha.dic
      cases rx
      exact ix_dic hK hP hw hu I hd hk (top_key hk hb) ry e q hs
    · cases e
  refine ix_seq value slice pins s σ H x y v u Q I rx ry ?_ hs
  unfold subD at e
  split at e
  · rename_i xs i
    obtain ⟨j, hj, hx⟩ := Option.bind_eq_some_iff.mp e
    obtain ⟨p, vs, rfl, z, t1, r1⟩ := ha.tup
    obtain ⟨w, hw, rw'⟩ := r1.get hx
    refine .inr (.inl ⟨p, vs, i, w, rfl, hb.int, hK ▸ tup_sq t1, ?_, q w rw'⟩)
    unfold atI
    rw [r1.length, ← ixP_eq, hj]
    exact hw
  · rename_i xs i
    obtain ⟨j, hj, hx⟩ := Option.bind_eq_some_iff.mp e
    obtain ⟨p, vs, rfl, z, t1, r1⟩ := ha.lst
    obtain ⟨w, hw, rw'⟩ := r1.get hx
    refine .inl ⟨p, vs, i, w, rfl, hb.int, SqL.of t1, ?_, q w rw'⟩
    unfold atI
    rw [r1.length, ← ixP_eq, hj]
    exact hw
  · rename_i t i
    split at e
    · rename_i hz
      obtain ⟨j, hj, hx⟩ := Option.bind_eq_some_iff.mp e
      obtain ⟨c, hc, ec⟩ := Option.map_eq_some_iff.mp hx
      subst ec
      refine .inr (.inr ⟨⟨t.toArray⟩, i, c, ha.str, hb.int, ?_, ?_, q _ rfl⟩)
      · show t.toArray.size ≤ sizeLine
        rw [← szL_eq, List.size_toArray]
        exact hz
      · unfold atI
        show (ixN t.toArray.toList.length i).bind _ = _
        rw [← ixP_eq, List.toList_toArray, hj]
        exact hc
    · cases e
  · exact absurd ⟨_, rfl⟩ hdic
  · cases e
def rCut (W : Wd) : V → Option Int → Option Int → Hp → VK → Prop := fun x lo hi H Q => ∃ F a d, Fok F H ∧ Top W F H a x ∧ cutD a lo hi = some d ∧ ∀ v H', New W F H d v H' → Q v H'
theorem cutL_eq {F : Addr → Prop} {H : Hp} {ds : List D} {vs : List V} (lo hi : Option Int) (r : RepL W F H ds vs) : RepL W F H (cutL ds lo hi) (cutV vs lo hi) := by
  unfold cutL cutV
  rw [r.length, sIx_eq, sIx_eq]
  exact RepL.take _ (RepL.drop _ r)
theorem sl_cut (hK : X.K = W.K) : SlR X (rCut W) := by
  intro pins s σ H x v vl vu lo hi sl Q I rx hs pl pu h
  obtain ⟨F, a, d, f2, ha, e, q⟩ := h
  unfold cutD at e
  split at e
  · rename_i xs
    cases e
    obtain ⟨p, vs, rfl, z, t1, r1⟩ := ha.tup
    refine sl_tupA pins s σ H _ v vl vu lo hi sl Q I rx hs pl pu ⟨p, vs, rfl, hK ▸ tup_sq t1, fun e1 => q _ _ (.now ?_ rfl), fun _ c hc => q _ _ (.tup f2 hc (Nat.le_trans (cutV_length _ _ _) z) (cutL_eq lo hi r1))⟩
    have : cutL xs lo hi = xs := by
      unfold cutL
      rw [← r1.length, sIx_eq, sIx_eq, e1.1, e1.2, List.drop_zero, Nat.sub_zero, List.take_of_length_le (by rw [r1.length]; exact Nat.le_refl _)]
    rw [this]
    simp only [Rep]
    exact ⟨p, vs, rfl, z, t1, r1⟩
  · rename_i xs
    cases e
    obtain ⟨p, vs, rfl, z, t1, r1⟩ := ha.lst
    exact sl_list pins s σ H _ v vl vu lo hi sl Q I rx hs pl pu ⟨p, vs, rfl, SqL.of t1, fun c hc => q _ _ (.lst f2 hc (Nat.le_trans (cutV_length _ _ _) z) (cutL_eq lo hi r1))⟩
  · rename_i t
    split at e
    · rename_i hz
      cases e
      rw [ha.str] at rx
      refine sl_str pins s σ H _ v vl vu lo hi sl Q I rx hs pl pu ⟨⟨t.toArray⟩, rfl, ?_, q _ _ (.now ?_ rfl)⟩
      · show t.toArray.size ≤ sizeLine
        rw [← szL_eq, List.size_toArray]
        exact hz
      · show V.str _ = V.str _
        unfold cutS cutL
        congr 1
    · cases e
  · cases e
end

/-! ### t[::-1] -/
section
variable {prog : Program} {w : World} {A : Around} {E : Value → Shared → Prop} {s : Shared}
theorem rev_pick (xs : Array Value) : ((List.range xs.size).filterMap fun (m : Nat) => xs[(((xs.size : Nat) : Int) - 1 + (m : Int) * -1).toNat]?).toArray = xs.toList.reverse.toArray := by
  have e : ((List.range xs.size).filterMap fun (m : Nat) => xs[(((xs.size : Nat) : Int) - 1 + (m : Int) * -1).toNat]?) = (List.range xs.size).filterMap fun m => xs[xs.size - 1 - m]? := by
    have gen : ∀ l : List Nat, (∀ m ∈ l, m < xs.size) → (l.filterMap fun (m : Nat) => xs[(((xs.size : Nat) : Int) - 1 + (m : Int) * -1).toNat]?) = l.filterMap fun m => xs[xs.size - 1 - m]? := by
      intro l
      induction l with
      | nil => intro _; rfl
      | cons m l ih =>
        intro hm
        have h1 := hm m List.mem_cons_self
        have : (((xs.size : Nat) : Int) - 1 + (m : Int) * -1).toNat = xs.size - 1 - m := by omega
        rw [List.filterMap_cons, List.filterMap_cons, ih fun z hz => hm z (List.mem_cons_of_mem _ hz), this]
    exact gen _ fun m hm => List.mem_range.mp hm
  rw [e]
  have e2 : ((List.range xs.size).filterMap fun m => xs[xs.size - 1 - m]?) = ((List.range xs.size).map (fun k => xs.size - 1 - k)).filterMap (xs[·]?) := by
    rw [List.filterMap_map]
    rfl
  rw [e2, PySem.W.krv_range, List.filterMap_reverse, PySem.W.krv_all]
theorem sliceApplied_rev {sl : Addr} {vk : Value} {n : Nat} {Q : Int × Int × Nat → Shared → Prop} (hs : s.heap.IsSliceOf sl .none .none vk) (pk : IsPart vk (some (-1)))
    (h : Q (((n : Nat) : Int) - 1, -1, n) s) : wpAny (model prog w) A (Builtin.Slice.sliceApplied (.ref sl) (pure (n : Int))) Q E s := by
  obtain ⟨os, hos, hcs, hds⟩ := id hs
  unfold Builtin.Slice.sliceApplied Builtin.Slice.sliceFields
  refine wpAny_bind (wpAny_bind (wpAny_field hos hds (x := .none) rfl (wpAny_bind (wpAny_field hos hds (x := .none) rfl (wpAny_bind (wpAny_field hos hds (x := vk) rfl (wpAny_pure ?_)))))))
  refine wpAny_bind (HT.slicePart_ pk ?_)
  show wpAny _ _ (if ((-1 : Int) == 0) = true then _ else _) _ _ s
  rw [if_neg (by decide)]
  refine wpAny_bind (slicePart_none (wpAny_bind (slicePart_none (wpAny_bind (wpAny_pure ?_)))))
  show wpAny _ _ (match Builtin.Slice.sliceAdjust none none (-1) (n : Int) with | (lo, hi) => pure (lo, (-1 : Int), Builtin.Slice.slicePlaces lo hi (-1))) _ _ s
  have e1 : Builtin.Slice.sliceAdjust none none (-1) (n : Int) = ((n : Int) - 1, -1) := by
    unfold Builtin.Slice.sliceAdjust
    simp
  rw [e1]
  have e2 : Builtin.Slice.slicePlaces ((n : Int) - 1) (-1) (-1) = n := by
    unfold Builtin.Slice.slicePlaces
    have h1 : ¬ ((-1 : Int) > 0) := by omega
    simp only [h1, if_false]
    split
    · have : ((n : Int) - 1 - -1 - 1) / -(-1) = (n : Int) - 1 := by simp
      rw [this]
      omega
    · omega
  show wpAny _ _ (pure ((n : Int) - 1, (-1 : Int), Builtin.Slice.slicePlaces ((n : Int) - 1) (-1) (-1))) _ _ s
  rw [e2]
  exact wpAny_pure h
theorem getItem_tuple_rev {t sl : Addr} {items : Array Value} {vk : Value} {Q : Value → Shared → Prop} (ht : IsTup s.heap t items) (hs : s.heap.IsSliceOf sl .none .none vk) (pk : IsPart vk (some (-1)))
    (h : Q (.ref s.heap.objs.size) { s with heap := s.heap.push { cls := .type "tuple", data := .seq items.toList.reverse.toArray } }) (hsz : items.size ≤ sizeLine) : wpAny (model prog w) A (getItem (.ref t) (.ref sl)) Q E s := by
  have htake : sizeOk (.seq items.toList.reverse.toArray) := by
    show items.toList.reverse.toArray.size ≤ sizeLine
    rw [List.size_toArray, List.length_reverse, Array.length_toList]
    exact hsz
  obtain ⟨os, hos, hcs, hds⟩ := id hs
  have hTs : s.TypeIs (.ref sl) "slice" := ⟨os, hos, hcs⟩
  unfold getItem
  try with_reducible refine wpAny_holding ?_
  first | refine wpAny_bind (wpAny_pure ?_) | skip
  refine wpAny_bind (wpAny_sequenceKey ht.typeIs (by decide) ?_)
  refine wpAny_bind (wpAny_callSpecial?_slot (name := Str.ofString "__getitem__") ht.typeIs PyProof.Rows.slot_tuple_getitem
    (wpAny_call_entry PyProof.Rows.slot_tuple_getitem ht.typeIs entry_tuple_getitem ?_ (args_tuple_getitem _ _)))
  show wpAny _ _ (Builtin.Tuple.tupleItemsOf (.ref t) >>= _) _ _ s
  refine wpAny_bind (tupleItemsOf_ ht ?_)
  refine wpAny_bind (wpAny_typeOf hTs ?_)
  rw [if_pos (by decide)]
  refine wpAny_bind (sliceApplied_rev hs pk ?_)
  have hno : ¬ ((((items.size : Nat) : Int) - 1 == 0 && (-1 : Int) == 1 && items.size == items.size) = true) := by
    simp
  show wpAny _ _ (if (((items.size : Nat) : Int) - 1 == 0 && (-1 : Int) == 1 && items.size == items.size) = true then _ else _) _ _ s
  rw [if_neg hno, rev_pick]
  first
    | exact wpAny_bind (m := Builtin.Tuple.tupleExact _) (wpAny_newObj_type (wpAny_pure ⟨_, rfl, wpAny_pure h⟩) htake)
    | exact wpAny_bind (m := Builtin.Tuple.tupleExact _) (wpAny_newObj_type (wpAny_bind (wpAny_pure (wpAny_pure ⟨_, rfl, wpAny_pure h⟩))) htake)
    | exact wpAny_bind (wpAny_bind (m := Builtin.Tuple.tupleExact _) (wpAny_newObj_type (wpAny_pure (wpAny_pure ⟨_, rfl, wpAny_pure h⟩)) htake))
    | exact wpAny_bind (wpAny_bind (m := Builtin.Tuple.tupleExact _) (wpAny_newObj_type (wpAny_pure ⟨_, rfl, wpAny_pure h⟩) htake))
end
section
variable {X : Cx} {W : Wd}
def tRev (W : Wd) (te : TE) : TE := fun σ H Q => te σ H fun x H1 => ∃ F a d, Fok F H1 ∧ Top W F H1 a x ∧ isStr a = false ∧ revD a = some d ∧ ∀ v H', New W F H1 d v H' → Q v H'
theorem pe_rev (hK : X.K = W.K) {e : Expr} {te : TE} {k : Nat} {p1 p2 p3 pos : Pos} (he : PE X e te) : PE X (.Subscript e (.Slice none none (some (.UnaryOp .USub (.Constant (.int 1) k p1) p2)) p3) pos) (tRev W te) := by
  refine ⟨fun pins s σ H Q I h => ?_⟩
  refine Subscript_ (thn (he.run pins s σ H _ I h) fun v s1 ⟨x, H1, I1, r1, q1⟩ => ?_)
  obtain ⟨F, a, d, f2, ha, hstr, er, q⟩ := q1
  have hst : PO X (some (.UnaryOp .USub (.Constant (.int 1) k p1) p2)) (tPart (tUn (rU fun i => .int (-i)) (tC (.int 1)))) := po_some (pe_un un_neg pe_int)
  refine wpAny_Slice (thn (po_none.run pins s1 σ H1 (fun o H2 => o = none ∧ H2 = H1) I1 ⟨rfl, rfl⟩) fun vl s2 ⟨l, H2, I2, pl, el, e2⟩ => ?_)
  subst el e2
  refine thn (po_none.run pins s2 σ H2 (fun o H3 => o = none ∧ H3 = H2) I2 ⟨rfl, rfl⟩) fun vu s3 ⟨u, H3, I3, pu, eu, e3⟩ => ?_
  subst eu e3
  refine thn (hst.run pins s3 σ H3 (fun o H4 => o = some (-1) ∧ H4 = H3) I3 ⟨1, rfl, -1, rfl, rfl, rfl⟩) fun vs s4 ⟨o, H4, I4, ps, eo, e4⟩ => ?_
  subst eo e4
  have I5 : Inv X pins σ H4 { s4 with heap := s4.heap.push { cls := .type "slice", data := .fields #[vl, vu, vs] } } := I4.kept (t' := s4.toks) fun b ob q => Heap.get?_push_of_some _ q
  show wpAny (model X.prog X.w) X.A (subscriptTail e (.Slice none none (some (.UnaryOp .USub (.Constant (.int 1) k p1) p2)) p3) v (.ref s4.heap.objs.size)) (EP X pins σ Q) X.xe { s4 with heap := s4.heap.push { cls := .type "slice", data := .fields #[vl, vu, vs] } }
  unfold revD at er
  split at er
  · rename_i xs
    cases er
    obtain ⟨p, ws, rfl, z, t1, rr⟩ := ha.tup
    cases r1
    obtain ⟨its, r, ht, hz⟩ := I5.tuple (hK ▸ tup_sq t1)
    have hlen := r.length
    cases pl
    cases pu
    refine tail_any (ops := [.ref p, .ref s4.heap.objs.size]) ht.typeIs (PyProof.Rows.slot_tuple_getitem.lookup) ?_ (by with_unfolding_all rfl)
    refine getItem_tuple_rev ht (Heap.IsSliceOf.new _ .none .none vs) ps ?_ (by rw [List.size_toArray]; omega)
    refine ⟨.ref _, _, I5.laid (t' := s4.toks) (o := .tup ws.reverse) (fun b ob q => Heap.get?_push_of_some _ q) (Nat.le_refl _) ?_, rfl, q _ _ (.tup f2 (I5.hok.fresh (Nat.le_refl _)) (by rw [List.length_reverse]; exact hz) (RepL.reverse rr))⟩
    exact ⟨by rw [List.length_reverse]; exact hz, _, r.reverse, by rw [List.toList_toArray]; exact IsTup.new _ _⟩
  · rename_i xs
    cases er
    obtain ⟨p, ws, rfl, z, t1, rr⟩ := ha.lst
    cases r1
    obtain ⟨its, r, ht, hz⟩ := I5.list (SqL.of t1)
    have hlen := r.length
    refine tail_any (ops := [.ref p, .ref s4.heap.objs.size]) ht.isList.typeIs (PySem.slot_list_getitem.lookup) ?_ (by with_unfolding_all rfl)
    refine wpAny_getItem_list_slice ht.isList (Heap.IsSliceOf.new _ vl vu vs) pl pu ps (by decide) ?_ (by rw [List.size_toArray]; omega)
    rw [PySem.W.krv_pick]
    refine ⟨.ref _, _, I5.laid (t' := s4.toks) (o := .lst ws.reverse) (fun b ob q => Heap.get?_push_of_some _ q) (Nat.le_refl _) ?_, rfl, q _ _ (.lst f2 (I5.hok.fresh (Nat.le_refl _)) (by rw [List.length_reverse]; exact hz) (RepL.reverse rr))⟩
    exact ⟨by rw [List.length_reverse]; exact hz, _, 0, r.reverse, Heap.get?_push_size _ rfl⟩
  · cases hstr
  · cases er
end

/-! ### sorted(x) of anything that is collected -/
mutual
theorem reads_lt {h : Heap} : ∀ (d : PyData) (v : Value) (as : List Addr), Reads h v d as → ∀ x ∈ as, x < h.objs.size
  | .none, _, _, r => by cases r; simp
  | .bool _, _, _, r => by cases r; simp
  | .int _, _, _, r => by cases r; simp
  | .str _, _, _, r => by cases r; simp
  | .list xs, _, _, r => by
    cases r with
    | list h1 h2 h3 h4 =>
      intro x hx
      rcases List.mem_cons.mp hx with rfl | hx
      · exact Heap.lt_size h1
      · exact readsAll_lt xs _ _ h4 x hx
  | .tuple xs, _, _, r => by
    cases r with
    | tuple h1 h2 h3 h4 => exact readsAll_lt xs _ _ h4
  | .dict kvs, _, _, r => by
    cases r with
    | dict h1 h2 h3 h4 h5 =>
      intro x hx
      have h4' : ∀ x ∈ _, x < h.objs.size := readsKs_lt kvs _ _ h4
      have h5' : ∀ x ∈ _, x < h.objs.size := readsVs_lt kvs _ _ h5
      rcases List.mem_cons.mp hx with rfl | hx
      · exact Heap.lt_size h1
      · rcases List.mem_append.mp hx with hx | hx
        · exact h4' x hx
        · exact h5' x hx
theorem readsAll_lt {h : Heap} : ∀ (ds : List PyData) (vs : List Value) (as : List Addr), ReadsAll h vs ds as → ∀ x ∈ as, x < h.objs.size
  | [], _, _, r => by cases r; simp
  | d :: ds, _, _, r => by
    cases r with
    | cons h1 h2 =>
      intro x hx
      rcases List.mem_append.mp hx with hx | hx
      · exact reads_lt d _ _ h1 x hx
      · exact readsAll_lt ds _ _ h2 x hx
theorem readsKs_lt {h : Heap} : ∀ (kvs : List (PyData × PyData)) (vs : List Value) (as : List Addr), ReadsAll h vs (kvs.map (·.1)) as → ∀ x ∈ as, x < h.objs.size
  | [], _, _, r => by
    rw [List.map_nil] at r
    cases r; simp
  | (k, e) :: kvs, _, _, r => by
    rw [List.map_cons] at r
    cases r with
    | cons h1 h2 =>
      intro x hx
      rcases List.mem_append.mp hx with hx | hx
      · exact reads_lt k _ _ h1 x hx
      · exact readsKs_lt kvs _ _ h2 x hx
theorem readsVs_lt {h : Heap} : ∀ (kvs : List (PyData × PyData)) (vs : List Value) (as : List Addr), ReadsAll h vs (kvs.map (·.2)) as → ∀ x ∈ as, x < h.objs.size
  | [], _, _, r => by
    rw [List.map_nil] at r
    cases r; simp
  | (k, e) :: kvs, _, _, r => by
    rw [List.map_cons] at r
    cases r with
    | cons h1 h2 =>
      intro x hx
      rcases List.mem_append.mp hx with hx | hx
      · exact reads_lt e _ _ h1 x hx
      · exact readsVs_lt kvs _ _ h2 x hx
end
open PySem.W in
/-- one thing alone is in order -/
theorem sorts_one {prog : Program} {w : World} {A : Around} {s : Shared} {vs : List Value} {ds : List PyData} (e : EachIs (fun v d => ∃ as, Reads s.heap v d as) vs ds) (hal : AllAlike ds) (h1 : vs.length ≤ 1) (hn : ∀ d, d ∈ ds → d ≠ .none) (hu : ∀ d, d ∈ ds → A.units + d.depth < cLine) : SortsAt prog w A s (dataKind s.heap ds) vs := by
  refine ⟨fun v hv => ?_, general', ?_, fun h2 => absurd h2 (by omega)⟩
  · obtain ⟨d, hd, as, r⟩ := e.left v hv
    exact ⟨_, dataKind_some hal hd r⟩
  · intro E x y a b Q ha hb hq
    obtain ⟨d, as, hd, ra, rfl⟩ := dataKind_inv ha
    obtain ⟨d', as', hd', rb, rfl⟩ := dataKind_inv hb
    exact oneLt_alike (f := false) (fun h => nomatch h) ra rb (hal d hd d' hd') (hn d hd) (Nat.lt_of_le_of_lt (Nat.add_le_add_left (Nat.min_le_left _ _) _) (hu d hd)) hq
open PySem.W in
theorem list_sort_data1 {β : Type} {prog : Program} {w : World} {A : Around} {E : Value → Shared → Prop} {s : Shared} {vs : List Value} {bs : List β} {enc : β → PyData} {R : Value → β → Prop} {a : Addr} {n : Nat} {Q : Value → Shared → Prop} (ho : s.heap.get? a = some (seqObj "list" vs.toArray n)) (e : EachIs R vs bs) (er : EachIs (fun v b => ∃ as, Reads s.heap v (enc b) as ∧ a ∉ as) vs bs) (hal : AllAlike (bs.map enc)) (hk : Sortable (bs.map enc) ∨ (vs.length ≤ 1 ∧ ∀ d, d ∈ bs.map enc → d ≠ .none)) (hL : bs.length ≤ sizeLine)
    (hu : ∀ b, b ∈ bs → A.units + 1 + (enc b).depth < cLine) (h : ∀ out, out.length = bs.length → EachIs R out (bs.mergeSort (dataLe false enc)) → Q .none { s with heap := sortedHeap s.heap a vs (List.toArray out) }) :
    wpAny (model prog w) A (call (.builtin "list.sort") [.ref a]) Q E s := by
  have er' : EachIs (fun v b => ∃ as, Reads (sortingHeap s.heap a vs) v (enc b) as) vs bs := each_keepBut (h' := sortingHeap s.heap a vs) (fun _ _ hb q => sortingHeap_old hb q) (fun o q => by rw [ho] at q; rw [← Option.some.inj q]) hal er
  refine wpAny_call_entry slot_list_sort ⟨_, ho, rfl⟩ entry_list_sort (list_sort_vals (κ := dataKind (sortingHeap s.heap a vs) (bs.map enc)) ho (by
    rcases hk with hk | ⟨k1, k2⟩
    · exact SortsAt.data (s := { s with heap := sortingHeap s.heap a vs }) (each_map (R := fun v d => ∃ as, Reads (sortingHeap s.heap a vs) v d as) enc er') hal hk (bound_map hu)
    · exact sorts_one (s := { s with heap := sortingHeap s.heap a vs }) (each_map (R := fun v d => ∃ as, Reads (sortingHeap s.heap a vs) v d as) enc er') hal k1 k2 (bound_map hu)) (by rw [e.length]; exact hL) ⟨.none, rfl, ?_⟩) (args_list_sort _)
  exact h _ (by rw [sortVals_length false rfl]; exact e.length) (sortVals_data false e er' hal)
open PySem.W in
theorem sorted_coll {β : Type} {prog : Program} {w : World} {A : Around} {E : Value → Shared → Prop} {s : Shared} {x : Value} {vs : List Value} {bs : List β} {enc : β → PyData} {R : Value → β → Prop} {Q : Value → Shared → Prop}
    (hc : ∀ (Q' : List Value → Shared → Prop) (E' : Value → Shared → Prop), (∀ h' tk, (∀ b o, s.heap.get? b = some o → h'.get? b = some o) → Q' vs { s with heap := h', toks := tk }) → wpAny (model prog w) A.in1 (collect x) Q' E' s)
    (e : EachIs R vs bs) (er : EachIs (fun v b => ∃ as, Reads s.heap v (enc b) as) vs bs) (hal : AllAlike (bs.map enc)) (hk : Sortable (bs.map enc) ∨ (vs.length ≤ 1 ∧ ∀ d, d ∈ bs.map enc → d ≠ .none)) (hL : bs.length ≤ sizeLine) (hu : ∀ b, b ∈ bs → A.units + 2 + (enc b).depth < cLine)
    (h : ∀ (h1 h' : Heap) (tk : Nat) (out : List Value) (c : Nat), (∀ b o, s.heap.get? b = some o → h1.get? b = some o) → (∀ b o, h1.get? b = some o → h'.get? b = some o) → h'.get? h1.objs.size = some (seqObj "list" (List.toArray out) c) → out.length = bs.length → EachIs R out (bs.mergeSort (dataLe false enc)) → Q (.ref h1.objs.size) { s with heap := h', toks := tk }) :
    wpAny (model prog w) A (call (.builtin "sorted") [x]) Q E s := by
  refine call_function_entry_kw kind_sorted plain_sorted entry_sorted (args_sorted1 _) ?_
  unfold Builtin.«sorted»
  refine wpAny_bind (m := checkCount "sorted" 1 1 _) (wpAny_pure ?_)
  refine wpAny_bind (hc _ _ fun h1 tk k1 => ?_)
  have hvl : vs.length = bs.length := e.length
  refine wpAny_bind (wpAny_newList ?_ (by rw [hvl]; exact hL))
  have k2 : ∀ b o, h1.get? b = some o → (h1.push { cls := .type "list", data := .seq vs.toArray }).get? b = some o := fun b o q => Heap.get?_push_of_some _ q
  have hob : (h1.push { cls := .type "list", data := .seq vs.toArray }).get? h1.objs.size = some (seqObj "list" vs.toArray 0) := Heap.get?_push_size _ rfl
  refine wpAny_bind (wpAny_holding ?_)
  show wpAny (model prog w) A.in1 (call (.builtin "list.sort") [.ref h1.objs.size]) _ _ { s with heap := h1.push { cls := .type "list", data := .seq vs.toArray }, toks := tk }
  have er2 : EachIs (fun v b => ∃ as, Reads (h1.push { cls := .type "list", data := .seq vs.toArray }) v (enc b) as ∧ h1.objs.size ∉ as) vs bs := er.mono fun v b ⟨as, r⟩ => ⟨as, PyProof.Rows.Reads.keeps k2 (PyProof.Rows.Reads.keeps k1 r), fun hm => by
    have := reads_lt _ _ _ (PyProof.Rows.Reads.keeps k1 r) _ hm
    exact absurd this (Nat.lt_irrefl _)⟩
  refine list_sort_data1 (s := { s with heap := h1.push { cls := .type "list", data := .seq vs.toArray }, toks := tk }) hob e er2 hal hk hL (fun b hb => by have := hu b hb; show A.units + 1 + 1 + _ < cLine; omega) fun out hout ho => ?_
  refine wpAny_pure ⟨_, rfl, ?_⟩
  obtain ⟨c, hc'⟩ := PyProof.Rows.sortedHeap_at (vs := vs) (out := out.toArray) hob
  refine h h1 _ _ out c k1 (fun b o q => ?_) hc' hout ho
  have hb : b ≠ h1.objs.size := Nat.ne_of_lt (Heap.lt_size q)
  rw [PyProof.Rows.sortedHeap_old hb (Heap.lt_size (k2 b o q))]
  exact k2 b o q

/-! ### builtins -/
section
variable {X : Cx} {W : Wd}
theorem bls_of {F : Addr → Prop} {H : Hp} : ∀ {ds : List D} {vs : List V} {bs : List Bool}, RepL W F H ds vs → blsOf ds = some bs → vs = bs.map V.bl
  | [], _, _, h, e => by
    simp only [RepL] at h
    cases e
    exact h
  | d :: ds, _, _, h, e => by
    simp only [RepL] at h
    obtain ⟨v, r, rfl, h1, h2⟩ := h
    cases d <;> simp only [blsOf, reduceCtorEq] at e
    obtain ⟨r', e', rfl⟩ := Option.map_eq_some_iff.mp e
    rw [bls_of h2 e', show v = _ from h1]
    rfl
theorem ints_of {F : Addr → Prop} {H : Hp} : ∀ {ds : List D} {vs : List V} {ns : List Int}, RepL W F H ds vs → intsOf ds = some ns → vs = ns.map V.int ∧ ds = ns.map D.int
  | [], _, _, h, e => by
    simp only [RepL] at h
    cases e
    exact ⟨h, rfl⟩
  | d :: ds, _, _, h, e => by
    simp only [RepL] at h
    obtain ⟨v, r, rfl, h1, h2⟩ := h
    cases d <;> simp only [intsOf, reduceCtorEq] at e
    obtain ⟨r', e', rfl⟩ := Option.map_eq_some_iff.mp e
    obtain ⟨a, b⟩ := ints_of h2 e'
    rw [a, b, show v = _ from h1]
    exact ⟨rfl, rfl⟩
/-- a sequence is read: its values -/
theorem seq_of {F : Addr → Prop} {H : Hp} {d : D} {ds : List D} {v : V} (h : Top W F H d v) (e : seqD d = some ds) : ∃ a vs, v = .ref a ∧ vs.length ≤ sizeLine ∧ ((SqL W.K H a vs ∧ d = .lst ds) ∨ (SqT W.K H a vs ∧ d = .tup ds)) ∧ RepL W F H ds vs := by
  unfold seqD at e
  split at e
  · cases e
    obtain ⟨a, vs, rfl, z, t1, r1⟩ := h.tup
    exact ⟨a, vs, rfl, z, .inr ⟨tup_sq t1, rfl⟩, r1⟩
  · cases e
    obtain ⟨a, vs, rfl, z, t1, r1⟩ := h.lst
    exact ⟨a, vs, rfl, z, .inl ⟨SqL.of t1, rfl⟩, r1⟩
  · cases e
theorem each_of {F : Addr → Prop} {H : Hp} : ∀ {ds : List D} {vs : List V} {us : List Value}, RepL W F H ds vs → Vals vs us → PySem.W.EachIs (fun u d => ∃ v, RelV v u ∧ Rep W F H d v) us ds
  | [], _, _, h, r => by
    simp only [RepL] at h
    subst h
    cases r
    exact .nil
  | d :: ds, _, _, h, r => by
    simp only [RepL] at h
    obtain ⟨v, r', rfl, h1, h2⟩ := h
    cases r with
    | cons q1 q2 => exact .cons ⟨v, q1, h1⟩ (each_of h2 q2)
theorem of_each {F : Addr → Prop} {H : Hp} : ∀ {ds : List D} {us : List Value}, PySem.W.EachIs (fun u d => ∃ v, RelV v u ∧ Rep W F H d v) us ds → ∃ vs, Vals vs us ∧ RepL W F H ds vs
  | _, _, .nil => ⟨[], .nil, rfl⟩
  | _, _, .cons ⟨v, q1, q2⟩ t => by
    obtain ⟨vs, a, b⟩ := of_each t
    exact ⟨v :: vs, .cons q1 a, v, vs, rfl, q2, b⟩
/-- the arguments' reading -/
def rBi (W : Wd) (b : Bi) : List V → Hp → VK → Prop := fun xs H Q => ∃ F ds d, Fok F H ∧ TopL W F H ds xs ∧ biD b ds = some d ∧ ∀ v H', New W F H d v H' → Q v H'
def biVal : Bi → Value
  | .len => .builtin "len" | .int => .type "int" | .str => .type "str" | .all => .builtin "all" | .any => .builtin "any" | .list => .type "list" | .tuple => .type "tuple" | .sorted => .builtin "sorted"
  | .sum => .builtin "sum" | .max => .builtin "max" | .min => .builtin "min"
def biNm : Bi → String
  | .len => "len" | .int => "int" | .str => "str" | .all => "all" | .any => "any" | .list => "list" | .tuple => "tuple" | .sorted => "sorted" | .sum => "sum" | .max => "max" | .min => "min"
theorem alikeAll_ints (ns : List Int) : PySem.W.AlikeAll (ns.map PyData.int) := by
  refine ⟨fun d hd d' hd' => ?_, fun d hd => ?_⟩
  · obtain ⟨i, _, rfl⟩ := List.mem_map.mp hd
    obtain ⟨j, _, rfl⟩ := List.mem_map.mp hd'
    rfl
  · obtain ⟨i, _, rfl⟩ := List.mem_map.mp hd
    exact fun z => by cases z
theorem pys_ints (ns : List Int) : pys (ns.map D.int) = ns.map PyData.int := by
  rw [pys_map, List.map_map]
  rfl
theorem cr_sorted_from (hK : X.K = W.K) (hu : X.A.units + 64 < cLine) {pins : List (Addr × Obj)} {s : Shared} {σ : L2.St} {H : Hp} {Q : VK} {u : Value} {F : Addr → Prop} {xs : List D} {vs : List V} {us : List Value} (I : Inv X pins σ H s) (f2 : Fok F H) (rl : RepL W F H xs vs) (rv : Vals vs us) (z : vs.length ≤ sizeLine) (hs : sortable xs = true)
    (hcol : ∀ (Q' : List Value → Shared → Prop) (E' : Value → Shared → Prop), (∀ h' tk, (∀ b o, s.heap.get? b = some o → h'.get? b = some o) → Q' us { s with heap := h', toks := tk }) → wpAny (model X.prog X.w) X.A.in1 (collect u) Q' E' s)
    (q : ∀ v H', New W F H (.lst (sortD xs)) v H' → Q v H') : wpAny (model X.prog X.w) X.A (call (.builtin "sorted") [u]) (EP X pins σ Q) X.xe s := by
  have hs0 := hs
  unfold sortable at hs
  simp only [Bool.and_eq_true, List.all_eq_true] at hs
  obtain ⟨⟨h1, h2⟩, h3⟩ := hs
  have hlen := rv.length
  have hll := rl.length
  have er : PySem.W.EachIs (fun v b => ∃ as, Reads s.heap v (D.py b) as) us xs := by
    have e := each_of rl rv
    have gen : ∀ {us : List Value} {ds : List D}, PySem.W.EachIs (fun u d => ∃ v, RelV v u ∧ Rep W F H d v) us ds → (∀ d ∈ ds, pl 59 d = true) → PySem.W.EachIs (fun v b => ∃ as, Reads s.heap v (D.py b) as) us ds := by
      intro us ds e
      induction e with
      | nil => intro _; exact .nil
      | cons hh t ih =>
        intro hp
        obtain ⟨v, q1, q2⟩ := hh
        exact .cons (reads_of hK I q2.top (hp _ List.mem_cons_self) q1) (ih fun d hd => hp d (List.mem_cons_of_mem _ hd))
    exact gen e h2
  refine sorted_coll (R := fun u d => ∃ v, RelV v u ∧ Rep W F H d v) (enc := D.py) (vs := us) (bs := xs) (fun Q' E' hq' => ?_) (each_of rl rv) er ?_ ?_ (by rw [← hll]; exact z) ?_ fun h1' h' tk out c k1 k2 hob hout ho' => ?_
  · exact hcol Q' E' hq'
  · intro d hd e he
    obtain ⟨x, hx, rfl⟩ := List.mem_map.mp hd
    obtain ⟨y, hy, rfl⟩ := List.mem_map.mp he
    exact alike_py x y (h1 x hx y hy)
  · rw [Bool.or_eq_true, Bool.or_eq_true, List.all_eq_true, List.all_eq_true, Bool.and_eq_true, List.all_eq_true] at h3
    rcases h3 with (h3 | h3) | h3
    · refine .inl (.inl fun d hd => ?_)
      obtain ⟨x, hx, rfl⟩ := List.mem_map.mp hd
      have := h3 x hx
      cases x with
      | tup ys =>
        cases ys with
        | nil => cases this
        | cons y ys => exact ⟨_, _, rfl⟩
      | _ => cases this
    · refine .inl (.inr fun d hd => ?_)
      obtain ⟨x, hx, rfl⟩ := List.mem_map.mp hd
      have := h3 x hx
      cases x <;> simp_all [D.py, isAtom]
    · have hn := of_decide_eq_true h3.1
      refine .inr ⟨by omega, fun d hd => ?_⟩
      obtain ⟨x, hx, rfl⟩ := List.mem_map.mp hd
      have h4 := h3.2 x hx
      have h5 := h2 x hx
      cases x <;> first | (simp [pl] at h5; done) | (simp [isNon] at h4; done) | (intro z; cases z; done)
  · intro b hb
    have := (pl_plain 59 b (h2 b hb)).2
    omega
  · rw [← sortD_merge xs hs0] at ho'
    obtain ⟨ws, w1, w2⟩ := of_each ho'
    have I1 : Inv X pins σ H { s with heap := h1', toks := tk } := I.kept k1
    have hfr : H h1'.objs.size = none := I1.hok.fresh (Nat.le_refl _)
    have hwl : ws.length ≤ sizeLine := by rw [w2.length, sortD, sortB_len, ← hll]; exact z
    have I2 : Inv X pins σ (upd H h1'.objs.size (.lst ws)) { s with heap := h', toks := tk } := I1.laid (t' := tk) k2 (Nat.le_refl _) ⟨hwl, out, c, w1, hob⟩
    exact ⟨.ref _, _, I2, rfl, q _ _ (.lst f2 hfr hwl w2)⟩
theorem cr_sorted_data (hK : X.K = W.K) (hu : X.A.units + 64 < cLine) {pins : List (Addr × Obj)} {s : Shared} {σ : L2.St} {H : Hp} {Q : VK} {x : V} {u : Value} {F : Addr → Prop} {d : D} {xs : List D} (I : Inv X pins σ H s) (r : RelV x u) (f2 : Fok F H) (h : Top W F H d x) (hd : seqD d = some xs) (hs : sortable xs = true)
    (q : ∀ v H', New W F H (.lst (sortD xs)) v H' → Q v H') : wpAny (model X.prog X.w) X.A (call (.builtin "sorted") [u]) (EP X pins σ Q) X.xe s := by
  obtain ⟨a, vs, rfl, z, hq, rl⟩ := seq_of h hd
  cases r
  have key : ∃ (us : List Value) (o : Obj) (n : Nat) (T : String), Vals vs us ∧ (T = "list" ∨ T = "tuple") ∧ s.heap.get? a = some o ∧ o.cls = .type T ∧ o.data = .seq us.toArray n := by
    rcases hq with ⟨hq, _⟩ | ⟨hq, _⟩
    · obtain ⟨its, rv, ⟨o, n, ho, hc, _, hd⟩, _⟩ := I.list (hK ▸ hq)
      exact ⟨its, o, n, "list", rv, .inl rfl, ho, hc, hd⟩
    · obtain ⟨its, rv, ⟨o, ho, hc, n, hd⟩, _⟩ := I.tuple (hK ▸ hq)
      exact ⟨its, o, n, "tuple", rv, .inr rfl, ho, hc, hd⟩
  obtain ⟨us, o, n, T, rv, hT, ho, hc, hd'⟩ := key
  refine cr_sorted_from hK hu I f2 rl rv z hs (fun Q' E' hq' => ?_) q
  refine wpAny_collect_seq a hT ho hc hd' (fun h' k => ?_) (by rw [List.size_toArray, ← rv.length]; exact z)
  have := hq' h' s.toks k
  simpa using this
/-- sorted(d) -/
theorem cr_sorted_dic (hK : X.K = W.K) (hc : X.calm = true) (hu : X.A.units + 64 < cLine) {pins : List (Addr × Obj)} {s : Shared} {σ : L2.St} {H : Hp} {Q : VK} {a : Addr} {F : Addr → Prop} {kvs : List (D × D)} (I : Inv X pins σ H s) (f2 : Fok F H) (h : Dic W F H kvs a) (hs : sortable (dKeys kvs) = true)
    (q : ∀ v H', New W F H (.lst (sortD (dKeys kvs))) v H' → Q v H') : wpAny (model X.prog X.w) X.A (call (.builtin "sorted") [.ref a]) (EP X pins σ Q) X.xe s := by
  obtain ⟨arr, ep, us, hr, hd, hz, hl, hle, r, pe⟩ := h.entries I
  refine cr_sorted_from hK hu I f2 r.keys (vals_keys pe).1 (by rw [List.length_map]; exact hle) hs (fun Q' E' hq' => ?_) q
  refine PySem.W.kdu_collect (PySem.KdlSrc.rawDict (es := arr) (ep := ep) hd) (by exact I.ok.hd hc) hr (by rw [hz, ← hl]; exact hle) fun h' tk acc hk hi => ?_
  rw [items_keys hi]
  exact hq' h' tk hk
/-- list(d) -/
theorem cr_list_dic (hc : X.calm = true) {pins : List (Addr × Obj)} {s : Shared} {σ : L2.St} {H : Hp} {Q : VK} {a : Addr} {F : Addr → Prop} {kvs : List (D × D)} (I : Inv X pins σ H s) (f2 : Fok F H) (h : Dic W F H kvs a)
    (q : ∀ v H', New W F H (.lst (dKeys kvs)) v H' → Q v H') : wpAny (model X.prog X.w) X.A (call (.type "list") [.ref a]) (EP X pins σ Q) X.xe s := by
  obtain ⟨arr, ep, us, hr, hd, hz, hl, hle, r, pe⟩ := h.entries I
  have hlv : (us.map (·.1)).length ≤ sizeLine := by rw [List.length_map]; exact hle
  refine PySem.W.kdl_call (PySem.KdlSrc.rawDict (es := arr) (ep := ep) hd) (by exact I.ok.hd hc) hr (by rw [hz, ← hl]; exact hle) fun h' tk acc c hk ho hi => ?_
  have e := items_keys hi
  have new : ObjOk X.prog X.w (upd H s.heap.objs.size (.lst (us.map (·.1)))) h' s.heap.objs.size (.lst (us.map (·.1))) := by
    refine ⟨hlv, acc.toList, c, by rw [e]; exact (vals_keys pe).1, ?_⟩
    rw [ho, Array.toArray_toList]
  have hp := I.hok.fresh (Nat.le_refl s.heap.objs.size)
  exact ⟨.ref s.heap.objs.size, _, I.laid (t' := tk) hk (Nat.le_refl _) new, rfl, q _ _ (New.lst f2 hp hlv r.keys)⟩
theorem cr_mm (hK : X.K = W.K) (hc : X.calm = true) (hu : X.A.units + 64 < cLine) {pins : List (Addr × Obj)} {s : Shared} {σ : L2.St} {H : Hp} {x : V} {us : List Value} {F : Addr → Prop} {d : D} {xs : List D} {n : Int} {ns : List Int} (I : Inv X pins σ H s) (r : Vals [x] us) (f2 : Fok F H) (h : Top W F H d x)
    (hd : seqD d = some xs) (eb : intsOf xs = some (n :: ns)) : (∀ Q : VK, Q (.int (ns.foldl max n)) H → wpAny (model X.prog X.w) X.A (call (.builtin "max") us) (EP X pins σ Q) X.xe s) ∧ (∀ Q : VK, Q (.int (ns.foldl min n)) H → wpAny (model X.prog X.w) X.A (call (.builtin "min") us) (EP X pins σ Q) X.xe s) := by
  obtain ⟨u, rfl, ru⟩ := vals1 r
  obtain ⟨a, vs, rfl, z, hq, rl⟩ := seq_of h hd
  cases ru
  obtain ⟨e1, e2⟩ := ints_of rl eb
  subst e1
  have hp : xs.all (pl 59) = true := by
    rw [e2, List.all_eq_true]
    intro x hx
    obtain ⟨i, _, rfl⟩ := List.mem_map.mp hx
    rfl
  have hds : PyData.depthAll ((n :: ns).map PyData.int) = 0 := PySem.W.depth_ints _
  have hroom : X.A.units + 1 + PyData.depthAll ((PyData.int n) :: ns.map PyData.int) < cLine := by
    have : (PyData.int n) :: ns.map PyData.int = (n :: ns).map PyData.int := rfl
    rw [this, hds]
    omega
  have fin : ∀ {Q : VK} {k : Int} {v : Value} {h' : Heap} {tk : Nat} {bs : List Addr}, Q (.int k) H → Reads h' v (.int k) bs → (∀ b o, s.heap.get? b = some o → h'.get? b = some o) → EP X pins σ Q v { s with heap := h', toks := tk } := fun {Q k v h' tk bs} q rd hk => by
    cases rd
    exact ⟨.int k, H, I.kept hk, ⟨_, rfl⟩, q⟩
  rcases hq with ⟨hq, hd2⟩ | ⟨hq, hd2⟩
  · obtain ⟨as, rd⟩ := reads_of hK I h (n := 60) (by rw [hd2]; simpa [pl] using hp) (rfl : RelV (.ref a) (.ref a))
    rw [hd2] at rd
    simp only [D.py] at rd
    rw [e2, pys_ints] at rd
    cases rd with
    | @list _ o its nn _ as' h1 h2 h3 h4 =>
      have hl : s.heap.IsList a its := ⟨o, h1, h2, nn, h3⟩
      exact ⟨fun Q q => PySem.W.max_list_data (I.ok.hd hc) hl h4 (alikeAll_ints (n :: ns)) hroom fun i v h' tk bs _ rd' hk => fin q (by rw [PySem.W.maxD_ints] at rd'; exact rd') hk,
        fun Q q => PySem.W.min_list_data (I.ok.hd hc) hl h4 (alikeAll_ints (n :: ns)) hroom fun i v h' tk bs _ rd' hk => fin q (by rw [PySem.W.minD_ints] at rd'; exact rd') hk⟩
  · obtain ⟨as, rd⟩ := reads_of hK I h (n := 60) (by rw [hd2]; simpa [pl] using hp) (rfl : RelV (.ref a) (.ref a))
    rw [hd2] at rd
    simp only [D.py] at rd
    rw [e2, pys_ints] at rd
    cases rd with
    | @tuple _ o its nn _ as' h1 h2 h3 h4 =>
      have hl : s.heap.IsTuple a its := ⟨o, h1, h2, nn, h3⟩
      exact ⟨fun Q q => PySem.W.max_tuple_data (I.ok.hd hc) hl h4 (alikeAll_ints (n :: ns)) hroom fun i v h' tk bs _ rd' hk => fin q (by rw [PySem.W.maxD_ints] at rd'; exact rd') hk,
        fun Q q => PySem.W.min_tuple_data (I.ok.hd hc) hl h4 (alikeAll_ints (n :: ns)) hroom fun i v h' tk bs _ rd' hk => fin q (by rw [PySem.W.minD_ints] at rd'; exact rd') hk⟩
theorem cr_bi (hK : X.K = W.K) (hP : X.prog = W.P) (hw : X.w = W.w) (hc : X.calm = true) (hu : X.A.units + 64 < cLine) (b : Bi) : CallR X (biVal b) (rBi W b) := by
  intro pins s σ H xs us Q I r h
  obtain ⟨F, ds, d, f2, ht, e, q⟩ := h
  unfold biD at e
  split at e
  · cases e
    obtain ⟨v, rfl, t1⟩ := ht.one
    obtain ⟨a, vs, rfl, z, t2, r1⟩ := t1.tup
    exact call_len_seq pins s σ H _ us Q I r ⟨a, vs, rfl, .inr (hK ▸ tup_sq t2), by rw [r1.length]; exact q _ _ (.now rfl rfl)⟩
  · cases e
    obtain ⟨v, rfl, t1⟩ := ht.one
    obtain ⟨a, vs, rfl, z, t2, r1⟩ := t1.lst
    exact call_len_seq pins s σ H _ us Q I r ⟨a, vs, rfl, .inl (SqL.of t2), by rw [r1.length]; exact q _ _ (.now rfl rfl)⟩
  · cases e
    obtain ⟨v, rfl, t1⟩ := ht.one
    obtain ⟨a, rfl, hd⟩ := t1.dic
    obtain ⟨u, rfl, ru⟩ := vals1 r
    cases ru
    exact dic_len I hd fun t s' I' => ⟨.int _, H, I', ⟨t, rfl⟩, q _ _ (.now rfl rfl)⟩
  · split at e
    · rename_i t hz
      cases e
      obtain ⟨v, rfl, t1⟩ := ht.one
      rw [t1.str] at r
      refine call_len_str pins s σ H _ us Q I r ⟨⟨t.toArray⟩, rfl, ?_, ?_⟩
      · show t.toArray.size ≤ sizeLine
        rw [← szL_eq, List.size_toArray]
        exact hz
      · have : ((⟨t.toArray⟩ : Str).length : Int) = (t.length : Int) := by show (t.toArray.size : Int) = _; rw [List.size_toArray]
        rw [this]
        exact q _ _ (.now rfl rfl)
    · cases e
  · cases e
    obtain ⟨v, rfl, t1⟩ := ht.one
    rw [t1.int] at r
    exact call_int1 pins s σ H _ us Q I r (.inl ⟨_, rfl, q _ _ (.now rfl rfl)⟩)
  · obtain ⟨bs, eb, rfl⟩ := Option.map_eq_some_iff.mp e
    obtain ⟨v, rfl, t1⟩ := ht.one
    obtain ⟨a, vs, rfl, z, t2, r1⟩ := t1.lst
    rw [bls_of r1 eb] at t2
    exact cr_all hc pins s σ H _ us Q I r ⟨a, bs, rfl, SqL.of t2, q _ _ (.now rfl rfl)⟩
  · obtain ⟨bs, eb, rfl⟩ := Option.map_eq_some_iff.mp e
    obtain ⟨v, rfl, t1⟩ := ht.one
    obtain ⟨a, vs, rfl, z, t2, r1⟩ := t1.lst
    rw [bls_of r1 eb] at t2
    exact cr_any hc pins s σ H _ us Q I r ⟨a, bs, rfl, SqL.of t2, q _ _ (.now rfl rfl)⟩
  · cases e
    obtain ⟨v, rfl, t1⟩ := ht.one
    obtain ⟨a, vs, rfl, z, t2, r1⟩ := t1.tup
    exact call_list_of pins s σ H _ us Q I r ⟨a, vs, rfl, .inr (hK ▸ tup_sq t2), fun l hl => q _ _ (.lst f2 hl z r1)⟩
  · cases e
    obtain ⟨v, rfl, t1⟩ := ht.one
    obtain ⟨a, vs, rfl, z, t2, r1⟩ := t1.lst
    exact call_list_of pins s σ H _ us Q I r ⟨a, vs, rfl, .inl (SqL.of t2), fun l hl => q _ _ (.lst f2 hl z r1)⟩
  · cases e
    obtain ⟨v, rfl, t1⟩ := ht.one
    obtain ⟨a, rfl, hd⟩ := t1.dic
    obtain ⟨u, rfl, ru⟩ := vals1 r
    cases ru
    exact cr_list_dic hc I f2 hd q
  · cases e
    obtain ⟨v, rfl, t1⟩ := ht.one
    obtain ⟨a, vs, rfl, z, t2, r1⟩ := t1.tup
    exact call_tuple_of pins s σ H _ us Q I r ⟨a, vs, rfl, .inr ⟨hK ▸ tup_sq t2, q _ _ (.now t1 rfl)⟩⟩
  · cases e
    obtain ⟨v, rfl, t1⟩ := ht.one
    obtain ⟨a, vs, rfl, z, t2, r1⟩ := t1.lst
    exact call_tuple_of pins s σ H _ us Q I r ⟨a, vs, rfl, .inl ⟨SqL.of t2, fun l hl => q _ _ (.tup f2 hl z r1)⟩⟩
  · split at e
    · rename_i hs
      cases e
      obtain ⟨v, rfl, t1⟩ := ht.one
      obtain ⟨u, rfl, ru⟩ := vals1 r
      exact cr_sorted_data hK hu I ru f2 t1 rfl hs q
    · cases e
  · split at e
    · rename_i hs
      cases e
      obtain ⟨v, rfl, t1⟩ := ht.one
      obtain ⟨u, rfl, ru⟩ := vals1 r
      exact cr_sorted_data hK hu I ru f2 t1 rfl hs q
    · cases e
  · split at e
    · rename_i hs
      cases e
      obtain ⟨v, rfl, t1⟩ := ht.one
      obtain ⟨a, rfl, hd⟩ := t1.dic
      obtain ⟨u, rfl, ru⟩ := vals1 r
      cases ru
      exact cr_sorted_dic hK hc hu I f2 hd hs q
    · cases e
  · obtain ⟨ns, eb, rfl⟩ := Option.map_eq_some_iff.mp e
    obtain ⟨v, rfl, t1⟩ := ht.one
    obtain ⟨a, vs, rfl, z, t2, r1⟩ := t1.lst
    rw [(ints_of r1 eb).1] at t2
    exact cr_sum hc pins s σ H _ us Q I r ⟨a, ns, rfl, SqL.of t2, q _ _ (.now rfl rfl)⟩
  · cases e
    obtain ⟨v, u, rfl, t1, t2⟩ := ht.two
    rw [t1.int, t2.int] at r
    exact call_max2 hc pins s σ H _ us Q I r ⟨_, _, rfl, q _ _ (.now rfl rfl)⟩
  · cases e
    obtain ⟨v, u, rfl, t1, t2⟩ := ht.two
    rw [t1.int, t2.int] at r
    exact call_min2 hc pins s σ H _ us Q I r ⟨_, _, rfl, q _ _ (.now rfl rfl)⟩
  · obtain ⟨ns, eb, em⟩ := Option.bind_eq_some_iff.mp e
    obtain ⟨v, rfl, t1⟩ := ht.one
    cases ns with
    | nil => cases em
    | cons n r' => cases em; exact (cr_mm hK hc hu I r f2 t1 rfl eb).1 _ (q _ _ (.now rfl rfl))
  · obtain ⟨ns, eb, em⟩ := Option.bind_eq_some_iff.mp e
    obtain ⟨v, rfl, t1⟩ := ht.one
    cases ns with
    | nil => cases em
    | cons n r' => cases em; exact (cr_mm hK hc hu I r f2 t1 rfl eb).1 _ (q _ _ (.now rfl rfl))
  · obtain ⟨ns, eb, em⟩ := Option.bind_eq_some_iff.mp e
    obtain ⟨v, rfl, t1⟩ := ht.one
    cases ns with
    | nil => cases em
    | cons n r' => cases em; exact (cr_mm hK hc hu I r f2 t1 rfl eb).2 _ (q _ _ (.now rfl rfl))
  · obtain ⟨ns, eb, em⟩ := Option.bind_eq_some_iff.mp e
    obtain ⟨v, rfl, t1⟩ := ht.one
    cases ns with
    | nil => cases em
    | cons n r' => cases em; exact (cr_mm hK hc hu I r f2 t1 rfl eb).2 _ (q _ _ (.now rfl rfl))
  · split at e
    · rename_i i hi
      cases e
      obtain ⟨v, rfl, t1⟩ := ht.one
      rw [t1.int] at r
      exact call_str_int pins s σ H _ us Q I r ⟨_, rfl, hi, q _ _ (.now rfl rfl)⟩
    · cases e
  · cases e
end

/-! ### isinstance -/
def tyNm : Ty → String
  | .int => "int" | .bool => "bool" | .str => "str" | .tuple => "tuple" | .list => "list"
section
variable {X : Cx} {W : Wd}
def rIsi (W : Wd) (t : Ty) : List V → Hp → VK → Prop := fun xs H Q => ∃ F d x b, Fok F H ∧ xs = [x, .ty (tyNm t)] ∧ Top W F H d x ∧ isiD t d = some b ∧ Q (.bl b) H
theorem cr_isi (hK : X.K = W.K) (t : Ty) : CallR X (.builtin "isinstance") (rIsi W t) := by
  intro pins s σ H xs us Q I r h
  obtain ⟨F, d, x, b, f2, rfl, ht, e, q⟩ := h
  obtain ⟨u, w', rfl, r1, r2⟩ := vals2 r
  cases r2
  unfold isiD at e
  by_cases hp : pl 60 d = true
  · rw [if_pos hp] at e
    obtain ⟨as, rd⟩ := reads_of hK I ht hp r1
    have e := Option.some.inj e
    subst e
    cases t
    · refine PySem.W.isinstance_int_data rd fun tk _ => ⟨.bl _, H, I.tok _, ?_, q⟩
      cases d <;> first | rfl | cases hp
    · refine PySem.W.isinstance_bool_data rd fun tk _ => ⟨.bl _, H, I.tok _, ?_, q⟩
      cases d <;> first | rfl | cases hp
    · refine PySem.W.isinstance_str_data rd fun tk _ => ⟨.bl _, H, I.tok _, ?_, q⟩
      cases d <;> first | rfl | cases hp
    · refine PySem.W.isinstance_tuple_data rd fun tk _ => ⟨.bl _, H, I.tok _, ?_, q⟩
      cases d <;> first | rfl | cases hp
    · refine PySem.W.isinstance_list_data rd fun tk _ => ⟨.bl _, H, I.tok _, ?_, q⟩
      cases d <;> first | rfl | cases hp
  · rw [if_neg hp] at e
    cases e
end

end Ip

/-! IpE: what an expression's term of the language says of the expression. -/
namespace Ip
open PySem PySem.Spec PyProof.Rows L2

/-! ### standing of operands, of what is one's own -/
section
variable {W : Wd} {F F' F'' : Addr → Prop} {H H' H'' : Hp} {s s' : T}
/-- an operand: a list is not the tape -/
def Opd (W : Wd) (F : Addr → Prop) (H : Hp) (d : D) (v : V) : Prop := Top W F H d v ∧ ∀ a, v = .ref a → isMut d = true → a ≠ W.ba ∧ a ≠ W.ca
/-- a place at which things stand in order -/
structure Pl (W : Wd) (F : Addr → Prop) (H : Hp) (s : T) : Prop where
  f2 : ∀ a, F a → H a ≠ none
  f3 : ¬ F W.ba ∧ ¬ F W.ca
  tape : Tp W s H
theorem Sim.pl {r : Env} {σ : L2.St} (S : Sim W F r s σ H) : Pl W F H s := ⟨S.f2, S.f3, S.tape⟩
theorem Pl.ext (P : Pl W F H s) (e : Ext W F H F' H') (t : Tp W s' H') : Pl W F' H' s' := ⟨e.live, ⟨fun h => by
    rcases e.new _ h with z | z
    · exact P.f3.1 z
    · exact P.tape.ba_some z, fun h => by
    rcases e.new _ h with z | z
    · exact P.f3.2 z
    · exact P.tape.ca_some z⟩, t⟩
theorem Pl.rep (P : Pl W F H s) (e : Ext W F H F' H') {d : D} {v : V} (h : Rep W F H d v) : Rep W F' H' d v := Rep.mono e.mono (e.frozen P.f2 P.f3) d v h
theorem Pl.repL (P : Pl W F H s) (e : Ext W F H F' H') {ds : List D} {vs : List V} (h : RepL W F H ds vs) : RepL W F' H' ds vs := RepL.mono e.mono (e.frozen P.f2 P.f3) ds vs h
theorem Pl.opd (P : Pl W F H s) {d : D} {v : V} (h : Rep W F H d v) : Opd W F H d v := ⟨h.top, by
  rintro a rfl m
  cases d with
  | lst ds =>
    simp only [Rep] at h
    obtain ⟨b, vs, e, _, ⟨f, _⟩, _⟩ := h
    cases e
    exact ⟨fun z => P.f3.1 (z ▸ f), fun z => P.f3.2 (z ▸ f)⟩
  | dic kvs =>
    simp only [Rep] at h
    obtain ⟨b, o, us, e, f, _⟩ := h
    cases e
    exact ⟨fun z => P.f3.1 (z ▸ f), fun z => P.f3.2 (z ▸ f)⟩
  | set _ => simp only [Rep] at h
  | _ => cases m⟩
theorem Pl.ext_opd (P : Pl W F H s) (e : Ext W F H F' H') {d : D} {v : V} (h : Opd W F H d v) : Opd W F' H' d v := by
  refine ⟨?_, h.2⟩
  have h1 := h.1
  cases d with
  | lst ds =>
    obtain ⟨a, vs, ea, z, h1, h2⟩ := h1
    obtain ⟨n1, n2⟩ := h.2 a ea rfl
    exact ⟨a, vs, ea, z, e.keep a _ h1 n1 n2, P.repL e h2⟩
  | dic kvs =>
    obtain ⟨a, o, us, ea, h1, h2, h3⟩ := h1
    obtain ⟨n1, n2⟩ := h.2 a ea rfl
    exact ⟨a, o, us, ea, e.keep a _ h1 n1 n2, h2, RepE.mono e.mono (e.frozen P.f2 P.f3) kvs us h3⟩
  | _ => exact P.rep e h1
/-- what a maker gives: a changeable thing is new and not frozen -/
def Own (W : Wd) (H : Hp) (F' : Addr → Prop) (H' : Hp) (d : D) (v : V) : Prop :=
  if isMut d = true then ∃ a, v = .ref a ∧ H a = none ∧ ¬ F' a ∧ H' a ≠ none ∧ Top W F' H' d v else Rep W F' H' d v
theorem Fre.some {d : D} {a : Addr} (h : Fre W F H d a) : H a ≠ none := by
  cases d with
  | lst ds => obtain ⟨vs, _, q, _⟩ := h; rw [q]; simp
  | tup ds => obtain ⟨vs, _, q, _⟩ := h; rw [q]; simp
  | dic kvs => obtain ⟨o, us, q, _⟩ := h; rw [q]; simp
  | _ => exact h.elim
theorem New.own {d : D} {v : V} (P : Pl W F H s) (e : Ext W F H F' H') (t : Tp W s' H') (n : New W F' H' d v H'') : ∃ F'', Ext W F H F'' H'' ∧ Tp W s' H'' ∧ Own W H F'' H'' d v := by
  rcases n with ⟨rfl, r, m⟩ | ⟨a, o, rfl, ha, rfl, fr⟩
  · exact ⟨F', e, t, by unfold Own; rw [m]; exact r⟩
  · have e2 := e.trans (Ext.laid (W := W) e.live (o := o) ha)
    have h0 : H a = none := by
      cases q : H a with
      | none => rfl
      | some o => exact absurd ha (e.alive a (by rw [q]; simp))
    by_cases m : isMut d = true
    · refine ⟨F', e2, t.laid ha, ?_⟩
      unfold Own
      rw [if_pos m]
      exact ⟨a, rfl, h0, fun z => e.live a z ha, by rw [upd_same]; simp, fr.top m⟩
    · refine ⟨_, e2.freeze h0 (by rw [upd_same]; simp), t.laid ha, ?_⟩
      unfold Own
      rw [if_neg m]
      exact fr.freeze
/-- frozen -/
theorem Own.rep {d : D} {v : V} (e : Ext W F H F' H') (h : Own W H F' H' d v) : ∃ F'', Ext W F H F'' H' ∧ Rep W F'' H' d v := by
  unfold Own at h
  split at h
  · obtain ⟨a, rfl, h0, _, hn, t⟩ := h
    exact ⟨_, e.freeze h0 hn, t.freeze⟩
  · exact ⟨_, e, h⟩
theorem Own.opd {d : D} {v : V} (P : Pl W F H s) (P' : Pl W F' H' s') (h : Own W H F' H' d v) : Opd W F' H' d v := by
  unfold Own at h
  split at h
  · obtain ⟨a, rfl, h0, _, hn, t⟩ := h
    refine ⟨t, ?_⟩
    rintro b e _
    cases e
    exact ⟨fun z => P.tape.ba_some (z ▸ h0), fun z => P.tape.ca_some (z ▸ h0)⟩
  · exact P'.opd h
theorem Sim.opd {r : Env} {σ : L2.St} (S : Sim W F r s σ H) {i : Nat} {d : D} (e : evL r i = some d) : ∃ v, σ[i]? = some (some v) ∧ Opd W F H d v := by
  unfold evL at e
  split at e
  · rename_i p hp
    obtain ⟨b, d'⟩ := p
    cases e
    cases b with
    | false =>
      obtain ⟨v, e1, q⟩ := S.val i _ hp
      exact ⟨v, e1, S.pl.opd q⟩
    | true =>
      obtain ⟨a, e1, q, _, _, _, n1, n2⟩ := S.own i _ hp
      exact ⟨.ref a, e1, q, by rintro b e _; cases e; exact ⟨n1, n2⟩⟩
  · cases e
theorem Sim.rep {r : Env} {σ : L2.St} (S : Sim W F r s σ H) {i : Nat} {d : D} (e : evV r i = some d) : ∃ v, σ[i]? = some (some v) ∧ Rep W F H d v := by
  unfold evV at e
  split at e
  · rename_i d' hp
    cases e
    exact S.val i _ hp
  · cases e
def OpdL (W : Wd) (F : Addr → Prop) (H : Hp) : List D → List V → Prop
  | [], vs => vs = []
  | d :: ds, vs => ∃ v r, vs = v :: r ∧ Opd W F H d v ∧ OpdL W F H ds r
theorem OpdL.top : ∀ {ds : List D} {vs : List V}, OpdL W F H ds vs → TopL W F H ds vs
  | [], _, h => h
  | _ :: _, _, ⟨v, r, e, h1, h2⟩ => ⟨v, r, e, h1.1, OpdL.top h2⟩
end

/-! ### the place in the program: slots, scope, the defs' names -/
structure Sc where
  N : List Str
  sc : Scope
  fn : Str → Bool
  ft : Str → Option (Nat × Nat)
def Sc.blk (S : Sc) (scope : Scope) : Sc := ⟨S.N, relS scope S.sc, fun x => scope.names.lookup x == some .cell, S.ft⟩
/-- what a call does -/
def spG (P : Program) (w : World) (K : PySem.W.Frag) (ba ca : Addr) (G : Gl) (i n : Nat) : Sp := fun vs H Q _ => ∃ (W : Wd) (F : Addr → Prop) (ds : List D) (s : T) (d : D) (s' : T), (W.P = P ∧ W.w = w ∧ W.K = K) ∧ W.ba = ba ∧ W.ca = ca ∧ Pl W F H s ∧ RepL W F H ds vs ∧ vs.length = n ∧ G.cl i ds s = some (d, s') ∧
  ∀ F' v H', Ext W F H F' H' → Tp W s' H' → Rep W F' H' d v → Q v H'
def Cal (X : Cx) (W : Wd) (G : Gl) (i n : Nat) (x : Str) : Prop :=
  ∃ (k : Nat) (f : Addr) (fd : FuncData) (ps : List Str), FnOk X.prog X.w X.K X.mg X.base CX0 k f fd ps (spG W.P W.w W.K W.ba W.ca G i n) ∧ Room k X.A ∧ X.mg x = some (.ref f) ∧ PySem.W.keepIn X.K (.ref f) = true ∧ Binds X.K fd ps []
def btN : List Str := ["len", "int", "str", "all", "any", "list", "tuple", "sorted", "sum", "max", "min", "isinstance", "bool", "range", "zip", "enumerate", "dict", "set"]
structure Std (S : Sc) (W : Wd) (G : Gl) (X : Cx) : Prop where
  hN : X.N = S.N
  hs : X.env.scope = S.sc
  hf : ∀ x, S.fn x = true → X.fn x = true
  hK : X.K = W.K
  hP : X.prog = W.P
  hw : X.w = W.w
  calm : X.calm = true
  nd : S.N.Nodup
  un : X.A.units + 64 < cLine
  po : PassesOwn (model X.prog X.w) X.A X.env X.xe
  bt : ∀ x ∈ btN, X.mg x = none
  cl : ∀ x i n, S.ft x = some (i, n) → Cal X W G i n x
theorem Std.blk {S : Sc} {W : Wd} {G : Gl} {X : Cx} (h : Std S W G X) {scope : Scope} (s : Shared) (H : Hp) (C : Addr) (cl : List (Str × Addr)) (fp : List Addr) : Std (S.blk scope) W G (X.blk s H scope (compEnvC scope cl C X.env) fp) where
  hN := h.hN
  hs := by show relS scope X.env.scope = _; rw [h.hs]; rfl
  hf := fun _ e => e
  hK := h.hK
  hP := h.hP
  hw := h.hw
  calm := h.calm
  nd := h.nd
  un := h.un
  po := PassesOwn.never
  bt := h.bt
  cl := h.cl

/-! ### readings -/
def gV (W : Wd) (G : Gl) (e : E) : TE := fun σ H Q => ∃ F r s d s', Sim W F r s σ H ∧ (ev G e r).v s = some (d, s') ∧ ∀ F' v H', Ext W F H F' H' → Tp W s' H' → Rep W F' H' d v → Q v H'
def gO (W : Wd) (G : Gl) (e : E) : TE := fun σ H Q => ∃ F r s d s', Sim W F r s σ H ∧ (ev G e r).o s = some (d, s') ∧ ∀ F' v H', Ext W F H F' H' → Tp W s' H' → Opd W F' H' d v → Q v H'
def gT (W : Wd) (G : Gl) (e : E) : TT := fun σ H Q => ∃ F r s b s', Sim W F r s σ H ∧ (ev G e r).t s = some (b, s') ∧ ∀ F' H', Ext W F H F' H' → Tp W s' H' → Q b H'
def gF (W : Wd) (G : Gl) (e : E) : TE := fun σ H Q => ∃ F r s d s', Sim W F r s σ H ∧ (ev G e r).v s = some (d, s') ∧ ∀ F' v H', Ext W F H F' H' → Tp W s' H' → Own W H F' H' d v → Q v H'
def aV (W : Wd) (G : Gl) (es : List E) : TA := fun σ H Q => ∃ F r s ds s', Sim W F r s σ H ∧ evs G es r s = some (ds, s') ∧ ∀ F' vs H', Ext W F H F' H' → Tp W s' H' → RepL W F' H' ds vs → Q vs H'
def aO (W : Wd) (G : Gl) (es : List E) : TA := fun σ H Q => ∃ F r s ds s', Sim W F r s σ H ∧ evos G es r s = some (ds, s') ∧ ∀ F' vs H', Ext W F H F' H' → Tp W s' H' → OpdL W F' H' ds vs → Q vs H'
def oG (W : Wd) (G : Gl) (e : Option E) : TO := fun σ H Q => ∃ F r s o s', Sim W F r s σ H ∧ evo? G e r s = some (o, s') ∧ ∀ F' H', Ext W F H F' H' → Tp W s' H' → Q o H'
theorem PE.weak {X : Cx} {x : Expr} {t u : TE} (h : PE X x t) (w : ∀ σ H Q, u σ H Q → t σ H Q) : PE X x u := ⟨fun pins s σ H Q I q => h.run pins s σ H Q I (w σ H Q q)⟩
theorem PT.weak {X : Cx} {x : Expr} {t u : TT} (h : PT X x t) (w : ∀ σ H Q, u σ H Q → t σ H Q) : PT X x u := ⟨fun pins s σ H Q I q => h.run pins s σ H Q I (w σ H Q q)⟩
theorem PW.weak {X : Cx} {x : Expr} {t u : TT} (h : PW X x t) (w : ∀ σ H Q, u σ H Q → t σ H Q) : PW X x u := ⟨fun wh pins s σ H Q I q => h.run wh pins s σ H Q I (w σ H Q q)⟩
theorem PA.weak {X : Cx} {x : List Expr} {t u : TA} (h : PA X x t) (w : ∀ σ H Q, u σ H Q → t σ H Q) : PA X x u := ⟨fun pos pins s σ H Q I q => h.run pos pins s σ H Q I (w σ H Q q)⟩
theorem PO.weak {X : Cx} {x : Option Expr} {t u : TO} (h : PO X x t) (w : ∀ σ H Q, u σ H Q → t σ H Q) : PO X x u := ⟨fun pins s σ H Q I q => h.run pins s σ H Q I (w σ H Q q)⟩
theorem pe_no {X : Cx} {x : Expr} : PE X x (fun _ _ _ => False) := ⟨fun _ _ _ _ _ _ h => h.elim⟩
theorem pt_no {X : Cx} {x : Expr} : PT X x (fun _ _ _ => False) := ⟨fun _ _ _ _ _ _ h => h.elim⟩
structure SEx (X : Cx) (W : Wd) (G : Gl) (x : Expr) (e : E) : Prop where
  v : PE X x (gV W G e)
  o : PE X x (gO W G e)
  t : PT X x (gT W G e)
def SE (S : Sc) (W : Wd) (G : Gl) (x : Expr) (e : E) : Prop := ∀ X, Std S W G X → SEx X W G x e
def SF (S : Sc) (W : Wd) (G : Gl) (x : Expr) (e : E) : Prop := ∀ X, Std S W G X → PE X x (gF W G e)
structure SA (S : Sc) (W : Wd) (G : Gl) (xs : List Expr) (es : List E) : Prop where
  st : ∀ env, starEach xs env = xs.map fun x => (false, eval x env)
  v : ∀ X, Std S W G X → PA X xs (aV W G es)
  o : ∀ X, Std S W G X → PA X xs (aO W G es)
def SO (S : Sc) (W : Wd) (G : Gl) (x : Option Expr) (e : Option E) : Prop := ∀ X, Std S W G X → PO X x (oG W G e)
/-- the term is one whose readings are all one -/
def Mk (G : Gl) (e : E) : Prop := ∀ r, ∃ f, ev G e r = mk f
def PlainT (x : Expr) : Prop := ∀ env whole, isTrue x env whole = (do let v ← whole; standAt x.pos; holding [v] (truthy v))
section
variable {S : Sc} {W : Wd} {G : Gl} {X : Cx} {x y : Expr} {e e' : E}
theorem gO_t (hx : PlainT x) (h : Std S W G X) (hm : Mk G e) (o : PE X x (gO W G e)) : PT X x (gT W G e) := by
  refine PT.weak (pt_truth o (hx _)) fun σ H Q q => ?_
  obtain ⟨F, r, s, b, s', S0, ee, k⟩ := q
  obtain ⟨f, hf⟩ := hm r
  rw [hf] at ee
  obtain ⟨p, e1, e2⟩ := Option.bind_eq_some_iff.mp ee
  obtain ⟨c, e3, e4⟩ := Option.map_eq_some_iff.mp e2
  cases e4
  refine ⟨F, r, s, p.1, p.2, S0, by rw [hf]; exact e1, fun F' v H' E1 T1 O1 => ⟨b, ?_, k F' H' E1 T1⟩⟩
  rw [h.hK]
  exact tru_of O1.1 e3
/-- from a maker's reading -/
theorem SEx.of_F (hx : PlainT x) (h : Std S W G X) (hm : Mk G e) (f : PE X x (gF W G e)) : SEx X W G x e := by
  have o : PE X x (gO W G e) := by
    refine PE.weak f fun σ H Q q => ?_
    obtain ⟨F, r, s, d, s', S0, ee, k⟩ := q
    obtain ⟨g, hg⟩ := hm r
    rw [hg] at ee
    refine ⟨F, r, s, d, s', S0, by rw [hg]; exact ee, fun F' v H' E1 T1 O1 => k F' v H' E1 T1 (Own.opd S0.pl (S0.pl.ext E1 T1) O1)⟩
  refine ⟨?_, o, gO_t hx h hm o⟩
  refine PE.weak f fun σ H Q q => ?_
  obtain ⟨F, r, s, d, s', S0, ee, k⟩ := q
  refine ⟨F, r, s, d, s', S0, ee, fun F' v H' E1 T1 O1 => ?_⟩
  obtain ⟨F2, E2, R2⟩ := Own.rep E1 O1
  exact k F2 v H' E2 T1 R2
/-- from a value's reading -/
theorem SEx.of_V (hx : PlainT x) (h : Std S W G X) (hm : Mk G e) (f : PE X x (gV W G e)) : SEx X W G x e := by
  have o : PE X x (gO W G e) := by
    refine PE.weak f fun σ H Q q => ?_
    obtain ⟨F, r, s, d, s', S0, ee, k⟩ := q
    obtain ⟨g, hg⟩ := hm r
    rw [hg] at ee
    exact ⟨F, r, s, d, s', S0, by rw [hg]; exact ee, fun F' v H' E1 T1 R1 => k F' v H' E1 T1 ((S0.pl.ext E1 T1).opd R1)⟩
  exact ⟨f, o, gO_t hx h hm o⟩
theorem SF.se (hx : PlainT x) (hm : Mk G e) (f : SF S W G x e) : SE S W G x e := fun X h => SEx.of_F hx h hm (f X h)

/-! ### lists of expressions -/
theorem sa_nil : SA S W G [] [] := ⟨fun _ => rfl, fun X _ => PA.weak pa_nil fun σ H Q q => by
    obtain ⟨F, r, s, ds, s', S0, ee, k⟩ := q
    cases ee
    exact k F [] H (Ext.refl S0.f2) S0.tape rfl, fun X _ => PA.weak pa_nil fun σ H Q q => by
    obtain ⟨F, r, s, ds, s', S0, ee, k⟩ := q
    cases ee
    exact k F [] H (Ext.refl S0.f2) S0.tape rfl⟩
theorem sa_cons {xs : List Expr} {es : List E} (h1 : SE S W G x e) (h2 : SA S W G xs es) (hs : ∀ env, starEach (x :: xs) env = (false, eval x env) :: starEach xs env := by intro _; rfl) : SA S W G (x :: xs) (e :: es) := by
  refine ⟨fun env => by rw [hs, h2.st, List.map_cons], fun X hX => ?_, fun X hX => ?_⟩
  · refine PA.weak (pa_cons (h1 X hX).v (h2.v X hX) (hs _)) fun σ H Q q => ?_
    obtain ⟨F, r, s, ds, s', S0, ee, k⟩ := q
    rw [evs] at ee
    obtain ⟨p, e1, e2⟩ := Option.bind_eq_some_iff.mp ee
    obtain ⟨c, e3, e4⟩ := Option.map_eq_some_iff.mp e2
    cases e4
    refine ⟨F, r, s, p.1, p.2, S0, e1, fun F1 v H1 E1 T1 R1 => ⟨F1, r, p.2, c.1, c.2, S0.ext E1 T1, e3, fun F2 vs H2 E2 T2 R2 => ?_⟩⟩
    exact k F2 (v :: vs) H2 (E1.trans E2) T2 ⟨v, vs, rfl, (S0.pl.ext E1 T1).rep E2 R1, R2⟩
  · refine PA.weak (pa_cons (h1 X hX).o (h2.o X hX) (hs _)) fun σ H Q q => ?_
    obtain ⟨F, r, s, ds, s', S0, ee, k⟩ := q
    rw [evos] at ee
    obtain ⟨p, e1, e2⟩ := Option.bind_eq_some_iff.mp ee
    obtain ⟨c, e3, e4⟩ := Option.map_eq_some_iff.mp e2
    cases e4
    refine ⟨F, r, s, p.1, p.2, S0, e1, fun F1 v H1 E1 T1 R1 => ⟨F1, r, p.2, c.1, c.2, S0.ext E1 T1, e3, fun F2 vs H2 E2 T2 R2 => ?_⟩⟩
    exact k F2 (v :: vs) H2 (E1.trans E2) T2 ⟨v, vs, rfl, (S0.pl.ext E1 T1).ext_opd E2 R1, R2⟩
theorem SA.head {xs : List Expr} {es : List E} (h : SA S W G (x :: xs) es) (env : PySem.Env) : starEach (x :: xs) env = (false, eval x env) :: starEach xs env := by
  have h1 := h.st env
  rw [h1, List.map_cons]
  congr 1
  have : ∀ (x : Expr) (xs : List Expr), starEach (x :: xs) env = (x :: xs).map (fun x => (false, eval x env)) → starEach xs env = xs.map (fun x => (false, eval x env)) := by
    intro x xs q
    cases x <;> (simp only [starEach, List.map_cons, List.cons.injEq] at q; first | exact q.2 | (exact absurd (congrArg Prod.fst q.1) (by decide)))
  exact (this x xs h1).symm
theorem SA.tail {xs : List Expr} {es : List E} (h : SA S W G (x :: xs) es) (env : PySem.Env) : starEach xs env = xs.map fun x => (false, eval x env) := by
  have h1 := h.head env
  rw [h.st env, List.map_cons] at h1
  exact (List.cons.inj h1).2.symm
theorem SA.plain {xs : List Expr} {es : List E} (h : SA S W G (x :: xs) es) (env : PySem.Env) (pos : Pos) : (backTo pos (starEach xs env)).any (·.1) = false := by
  rw [h.tail env]
  simp [backTo]
end
end Ip

/-! IpF: the expressions' rules. -/
namespace Ip
open PySem PySem.Spec PyProof.Rows L2
section
variable {S : Sc} {W : Wd} {G : Gl} {X : Cx} {x y z : Expr} {a b c e : E} {pos : Pos}
theorem se_bad : SE S W G x .bad := fun X _ => by
  refine ⟨PE.weak pe_no fun σ H Q q => ?_, PE.weak pe_no fun σ H Q q => ?_, PT.weak pt_no fun σ H Q q => ?_⟩
  all_goals
    obtain ⟨F, r, s, d, s', S0, ee, k⟩ := q
    rw [ev] at ee
    cases ee
theorem se_var (i : Nat) {n : Str} (hi : S.N[i]? = some n := by rfl) (hv : Vis S.sc n := by first | exact Or.inl rfl | exact Or.inr (Or.inl rfl) | exact Or.inr (Or.inr rfl)) (hd : (n == ("__debug__" : Str)) = false := by decide) (hcd : (n == ("__classdict__" : Str)) = false := by decide) :
    SE S W G (.Name n pos) (.loc i) := fun X h => by
  have p : PE X (.Name n pos) (tVar i) := pe_var (by rw [h.hN]; exact hi) (by rw [h.hs]; exact hv) hd hcd
  have o : PE X (.Name n pos) (gO W G (.loc i)) := by
    refine PE.weak p fun σ H Q q => ?_
    obtain ⟨F, r, s, d, s', S0, ee, k⟩ := q
    rw [ev] at ee
    obtain ⟨d', e1, e2⟩ := Option.map_eq_some_iff.mp ee
    cases e2
    obtain ⟨v, e3, t⟩ := S0.opd e1
    exact ⟨v, e3, k F v H (Ext.refl S0.f2) S0.tape t⟩
  refine ⟨?_, o, ?_⟩
  · refine PE.weak p fun σ H Q q => ?_
    obtain ⟨F, r, s, d, s', S0, ee, k⟩ := q
    rw [ev] at ee
    obtain ⟨d', e1, e2⟩ := Option.map_eq_some_iff.mp ee
    cases e2
    obtain ⟨v, e3, t⟩ := S0.rep e1
    exact ⟨v, e3, k F v H (Ext.refl S0.f2) S0.tape t⟩
  · refine PT.weak (pt_truth o (fun _ => rfl)) fun σ H Q q => ?_
    obtain ⟨F, r, s, d, s', S0, ee, k⟩ := q
    rw [ev] at ee
    obtain ⟨d', e1, e2⟩ := Option.bind_eq_some_iff.mp ee
    obtain ⟨c, e3, e4⟩ := Option.map_eq_some_iff.mp e2
    cases e4
    refine ⟨F, r, s, d', s, S0, by rw [ev]; show Option.map _ (evL r i) = _; rw [e1]; rfl, fun F' v H' E1 T1 O1 => ⟨d, ?_, k F' H' E1 T1⟩⟩
    rw [h.hK]
    exact tru_of O1.1 e3
/-- constants -/
theorem sf_con {v : V} {d : D} (p : ∀ X : Cx, PE X x (tC v)) (m : isMut d = false) (hr : ∀ F H, Rep W F H d v) : SF S W G x (.con d) := fun X h => by
  refine PE.weak (p X) fun σ H Q q => ?_
  obtain ⟨F, r, s, d, s', S0, ee, k⟩ := q
  rw [ev] at ee
  cases ee
  exact k F v H (Ext.refl S0.f2) S0.tape (by unfold Own; rw [m]; exact hr F H)
theorem mk_con {d : D} : Mk G (.con d) := fun r => ⟨_, by rw [ev]⟩
theorem se_int {i : Int} {j : Nat} : SE S W G (.Constant (.int i) j pos) (.con (.int i)) := SF.se (fun _ _ => rfl) mk_con (sf_con (fun _ => pe_int) rfl fun _ _ => rfl)
theorem se_bl {i : Bool} {j : Nat} : SE S W G (.Constant (.bool i) j pos) (.con (.bl i)) := SF.se (fun _ _ => rfl) mk_con (sf_con (fun _ => pe_bl) rfl fun _ _ => rfl)
theorem se_non {j : Nat} : SE S W G (.Constant .none j pos) (.con .non) := SF.se (fun _ _ => rfl) mk_con (sf_con (fun _ => pe_non) rfl fun _ _ => rfl)
theorem se_str {i : Str} {j : Nat} {l : List Nat} (hl : i.cps.toList = l := by rfl) : SE S W G (.Constant (.str i) j pos) (.con (.str l)) := SF.se (fun _ _ => rfl) mk_con (sf_con (fun _ => pe_str) rfl fun _ _ => by
  subst hl
  simp only [Rep])
/-! ### operations -/
theorem mk_bin {o : Op} : Mk G (.bin o a b) := fun r => ⟨_, by rw [ev]⟩
theorem sf_bin (o : Op) (ha : SE S W G x a) (hb : SE S W G y b) : SF S W G (.BinOp x (opOf o) y pos) (.bin o a b) := fun X h => by
  refine PE.weak (pe_op (op_bin h.hK o) (ha X h).o (hb X h).o) fun σ H Q q => ?_
  obtain ⟨F, r, s, d, s', S0, ee, k⟩ := q
  rw [ev] at ee
  obtain ⟨p, e1, e2⟩ := Option.bind_eq_some_iff.mp ee
  obtain ⟨q, e3, e4⟩ := Option.bind_eq_some_iff.mp e2
  obtain ⟨d', e5, e6⟩ := Option.map_eq_some_iff.mp e4
  cases e6
  refine ⟨F, r, s, p.1, p.2, S0, e1, fun F1 v1 H1 E1 T1 O1 => ⟨F1, r, p.2, q.1, q.2, S0.ext E1 T1, e3, fun F2 v2 H2 E2 T2 O2 => ?_⟩⟩
  have P1 := S0.pl.ext E1 T1
  refine ⟨F2, p.1, q.1, d, E2.live, (P1.ext_opd E2 O1).1, O2.1, e5, fun v H' n => ?_⟩
  obtain ⟨F3, E3, T3, O3⟩ := New.own S0.pl (E1.trans E2) T2 n
  exact k F3 v H' E3 T3 O3
theorem se_bin (o : Op) (ha : SE S W G x a) (hb : SE S W G y b) : SE S W G (.BinOp x (opOf o) y pos) (.bin o a b) := SF.se (fun _ _ => rfl) mk_bin (sf_bin o ha hb)
theorem intO_some {o : Option (D × T)} {p : Int × T} (h : intO o = some p) : o = some (.int p.1, p.2) := by
  unfold intO at h
  split at h
  · cases h; rfl
  · cases h
theorem se_neg (ha : SE S W G x a) : SE S W G (.UnaryOp .USub x pos) (.neg a) := SF.se (fun _ _ => rfl) (fun r => ⟨_, by rw [ev]⟩) fun X h => by
  refine PE.weak (pe_un un_neg (ha X h).o) fun σ H Q q => ?_
  obtain ⟨F, r, s, d, s', S0, ee, k⟩ := q
  rw [ev] at ee
  obtain ⟨p, e1, e2⟩ := Option.map_eq_some_iff.mp ee
  cases e2
  exact ⟨F, r, s, .int p.1, p.2, S0, intO_some e1, fun F1 v1 H1 E1 T1 O1 => ⟨p.1, O1.1.int, k F1 _ H1 E1 T1 rfl⟩⟩
theorem se_not (ha : SE S W G x a) : SE S W G (.UnaryOp .Not x pos) (.not_ a) := fun X h => by
  have f : PE X (.UnaryOp .Not x pos) (gF W G (.not_ a)) := by
    refine PE.weak (pe_notT (ha X h).o) fun σ H Q q => ?_
    obtain ⟨F, r, s, d, s', S0, ee, k⟩ := q
    rw [ev] at ee
    obtain ⟨p, e1, e2⟩ := Option.bind_eq_some_iff.mp ee
    obtain ⟨c, e3, e4⟩ := Option.map_eq_some_iff.mp e2
    cases e4
    refine ⟨F, r, s, p.1, p.2, S0, e1, fun F1 v1 H1 E1 T1 O1 => ⟨c, ?_, k F1 _ H1 E1 T1 rfl⟩⟩
    rw [h.hK]
    exact tru_of O1.1 e3
  refine ⟨?_, ?_, ?_⟩
  · refine PE.weak f fun σ H Q q => ?_
    obtain ⟨F, r, s, d, s', S0, ee, k⟩ := q
    refine ⟨F, r, s, d, s', S0, ee, fun F' v H' E1 T1 O1 => ?_⟩
    obtain ⟨F2, E2, R2⟩ := Own.rep E1 O1
    exact k F2 v H' E2 T1 R2
  · refine PE.weak f fun σ H Q q => ?_
    obtain ⟨F, r, s, d, s', S0, ee, k⟩ := q
    exact ⟨F, r, s, d, s', S0, by rw [ev] at ee ⊢; exact ee, fun F' v H' E1 T1 O1 => k F' v H' E1 T1 (Own.opd S0.pl (S0.pl.ext E1 T1) O1)⟩
  · refine PT.weak (pt_not (ha X h).t) fun σ H Q q => ?_
    obtain ⟨F, r, s, d, s', S0, ee, k⟩ := q
    rw [ev] at ee
    obtain ⟨p, e1, e2⟩ := Option.map_eq_some_iff.mp ee
    cases e2
    exact ⟨F, r, s, p.1, p.2, S0, e1, fun F1 H1 E1 T1 => k F1 H1 E1 T1⟩
/-! ### and, or -/
structure SBx (X : Cx) (W : Wd) (G : Gl) (x : Expr) (e : E) : Prop where
  v : PE X x (gV W G e)
  t : PW X x (gT W G e)
def SB (S : Sc) (W : Wd) (G : Gl) (x : Expr) (e : E) : Prop := ∀ X, Std S W G X → SBx X W G x e
theorem sb_and1 (ha : SE S W G x a) : SB S W G (.BoolOp .And [x] pos) a := fun X h => ⟨pe_one (ha X h).v, pw_and1 (ha X h).t⟩
theorem sb_or1 (ha : SE S W G x a) : SB S W G (.BoolOp .Or [x] pos) a := fun X h => ⟨pe_one (ha X h).v, pw_or1 (ha X h).t⟩
theorem sb_and {xs : List Expr} (ha : SE S W G x a) (hb : SB S W G (.BoolOp .And (y :: xs) pos) b) : SB S W G (.BoolOp .And (x :: y :: xs) pos) (.and_ a b) := fun X h => by
  refine ⟨PE.weak (pe_andT (ha X h).v (hb X h).v) fun σ H Q q => ?_, PW.weak (pw_and (ha X h).t (hb X h).t) fun σ H Q q => ?_⟩
  · obtain ⟨F, r, s, d, s', S0, ee, k⟩ := q
    rw [ev] at ee
    obtain ⟨p, e1, e2⟩ := Option.bind_eq_some_iff.mp ee
    obtain ⟨c, e3, e4⟩ := Option.bind_eq_some_iff.mp e2
    refine ⟨F, r, s, p.1, p.2, S0, e1, fun F1 v1 H1 E1 T1 O1 => ⟨c, by rw [h.hK]; exact tru_of O1.top e3, ?_⟩⟩
    cases c with
    | true => exact ⟨F1, r, p.2, d, s', S0.ext E1 T1, e4, fun F2 v H' E2 T2 R2 => k F2 v H' (E1.trans E2) T2 R2⟩
    | false => cases e4; exact k F1 v1 H1 E1 T1 O1
  · obtain ⟨F, r, s, d, s', S0, ee, k⟩ := q
    rw [ev] at ee
    obtain ⟨p, e1, e2⟩ := Option.bind_eq_some_iff.mp ee
    obtain ⟨p, s1⟩ := p
    refine ⟨F, r, s, p, s1, S0, e1, fun F1 H1 E1 T1 => ?_⟩
    cases p with
    | true => exact ⟨F1, r, s1, d, s', S0.ext E1 T1, e2, fun F2 H' E2 T2 => k F2 H' (E1.trans E2) T2⟩
    | false => cases e2; exact k F1 H1 E1 T1
theorem sb_or {xs : List Expr} (ha : SE S W G x a) (hb : SB S W G (.BoolOp .Or (y :: xs) pos) b) : SB S W G (.BoolOp .Or (x :: y :: xs) pos) (.or_ a b) := fun X h => by
  refine ⟨PE.weak (pe_orT (ha X h).v (hb X h).v) fun σ H Q q => ?_, PW.weak (pw_or (ha X h).t (hb X h).t) fun σ H Q q => ?_⟩
  · obtain ⟨F, r, s, d, s', S0, ee, k⟩ := q
    rw [ev] at ee
    obtain ⟨p, e1, e2⟩ := Option.bind_eq_some_iff.mp ee
    obtain ⟨c, e3, e4⟩ := Option.bind_eq_some_iff.mp e2
    refine ⟨F, r, s, p.1, p.2, S0, e1, fun F1 v1 H1 E1 T1 O1 => ⟨c, by rw [h.hK]; exact tru_of O1.top e3, ?_⟩⟩
    cases c with
    | false => exact ⟨F1, r, p.2, d, s', S0.ext E1 T1, e4, fun F2 v H' E2 T2 R2 => k F2 v H' (E1.trans E2) T2 R2⟩
    | true => cases e4; exact k F1 v1 H1 E1 T1 O1
  · obtain ⟨F, r, s, d, s', S0, ee, k⟩ := q
    rw [ev] at ee
    obtain ⟨p, e1, e2⟩ := Option.bind_eq_some_iff.mp ee
    obtain ⟨p, s1⟩ := p
    refine ⟨F, r, s, p, s1, S0, e1, fun F1 H1 E1 T1 => ?_⟩
    cases p with
    | false => exact ⟨F1, r, s1, d, s', S0.ext E1 T1, e2, fun F2 H' E2 T2 => k F2 H' (E1.trans E2) T2⟩
    | true => cases e2; exact k F1 H1 E1 T1
theorem SB.se (hab : (∃ p q, e = .and_ p q) ∨ ∃ p q, e = .or_ p q) (hb : SB S W G x e) : SE S W G x e := fun X h => by
  refine ⟨(hb X h).v, PE.weak (hb X h).v fun σ H Q q => ?_, (hb X h).t.pt⟩
  obtain ⟨F, r, s, d, s', S0, ee, k⟩ := q
  refine ⟨F, r, s, d, s', S0, ?_, fun F' v H' E1 T1 R1 => k F' v H' E1 T1 ((S0.pl.ext E1 T1).opd R1)⟩
  rcases hab with ⟨p, q, rfl⟩ | ⟨p, q, rfl⟩ <;> (rw [ev] at ee ⊢; exact ee)
theorem se_and {xs : List Expr} (hb : SB S W G (.BoolOp .And xs pos) (.and_ a b)) : SE S W G (.BoolOp .And xs pos) (.and_ a b) := SB.se (.inl ⟨_, _, rfl⟩) hb
theorem se_or {xs : List Expr} (hb : SB S W G (.BoolOp .Or xs pos) (.or_ a b)) : SE S W G (.BoolOp .Or xs pos) (.or_ a b) := SB.se (.inr ⟨_, _, rfl⟩) hb
def tIf3 (t u w : TT) : TT := fun σ H Q => t σ H fun c H1 => if c = true then u σ H1 Q else w σ H1 Q
theorem pt_ifE {t u w : TT} (hc : PT X z t) (ha : PT X x u) (hb : PT X y w) : PT X (.IfExp z x y pos) (tIf3 t u w) := by
  refine ⟨fun pins s σ H Q I h => ?_⟩
  refine isTrue_IfExp (thn (hc.run pins s σ H _ I h) fun d s1 ⟨H1, I1, q1⟩ => ?_)
  cases d with
  | true => exact ha.run pins s1 σ H1 Q I1 q1
  | false => exact hb.run pins s1 σ H1 Q I1 q1
theorem se_ite (hc : SE S W G z c) (ha : SE S W G x a) (hb : SE S W G y b) : SE S W G (.IfExp z x y pos) (.ite c a b) := fun X h => by
  have v : PE X (.IfExp z x y pos) (gV W G (.ite c a b)) := by
    refine PE.weak (pe_ifExp (hc X h).t (ha X h).v (hb X h).v) fun σ H Q q => ?_
    obtain ⟨F, r, s, d, s', S0, ee, k⟩ := q
    rw [ev] at ee
    obtain ⟨⟨p, s1⟩, e1, e2⟩ := Option.bind_eq_some_iff.mp ee
    refine ⟨F, r, s, p, s1, S0, e1, fun F1 H1 E1 T1 => ?_⟩
    cases p with
    | true => exact ⟨F1, r, s1, d, s', S0.ext E1 T1, e2, fun F2 v H' E2 T2 R2 => k F2 v H' (E1.trans E2) T2 R2⟩
    | false => exact ⟨F1, r, s1, d, s', S0.ext E1 T1, e2, fun F2 v H' E2 T2 R2 => k F2 v H' (E1.trans E2) T2 R2⟩
  refine ⟨v, PE.weak v fun σ H Q q => ?_, PT.weak (pt_ifE (hc X h).t (ha X h).t (hb X h).t) fun σ H Q q => ?_⟩
  · obtain ⟨F, r, s, d, s', S0, ee, k⟩ := q
    exact ⟨F, r, s, d, s', S0, by rw [ev] at ee ⊢; exact ee, fun F' v H' E1 T1 R1 => k F' v H' E1 T1 ((S0.pl.ext E1 T1).opd R1)⟩
  · obtain ⟨F, r, s, d, s', S0, ee, k⟩ := q
    rw [ev] at ee
    obtain ⟨⟨p, s1⟩, e1, e2⟩ := Option.bind_eq_some_iff.mp ee
    refine ⟨F, r, s, p, s1, S0, e1, fun F1 H1 E1 T1 => ?_⟩
    cases p with
    | true => exact ⟨F1, r, s1, d, s', S0.ext E1 T1, e2, fun F2 H' E2 T2 => k F2 H' (E1.trans E2) T2⟩
    | false => exact ⟨F1, r, s1, d, s', S0.ext E1 T1, e2, fun F2 H' E2 T2 => k F2 H' (E1.trans E2) T2⟩
end
end Ip

/-! IpG: comparisons, displays, calls, subscripts. -/
namespace Ip
open PySem PySem.Spec PyProof.Rows L2
section
variable {S : Sc} {W : Wd} {G : Gl} {X : Cx} {x y z : Expr} {a b c e : E} {pos : Pos}
/-- a value that is a bool -/
theorem own_bl {H : Hp} {F' : Addr → Prop} {H' : Hp} {k : Bool} : Own W H F' H' (.bl k) (.bl k) := by
  unfold Own
  rw [if_neg (by simp [isMut])]
  rfl
theorem SEx.of_FT (h : Std S W G X) (hm : Mk G e) (f : PE X x (gF W G e)) (t : PT X x (gT W G e)) : SEx X W G x e := by
  refine ⟨?_, ?_, t⟩
  · refine PE.weak f fun σ H Q q => ?_
    obtain ⟨F, r, s, d, s', S0, ee, k⟩ := q
    refine ⟨F, r, s, d, s', S0, ee, fun F' v H' E1 T1 O1 => ?_⟩
    obtain ⟨F2, E2, R2⟩ := Own.rep E1 O1
    exact k F2 v H' E2 T1 R2
  · refine PE.weak f fun σ H Q q => ?_
    obtain ⟨F, r, s, d, s', S0, ee, k⟩ := q
    obtain ⟨g, hg⟩ := hm r
    rw [hg] at ee
    exact ⟨F, r, s, d, s', S0, by rw [hg]; exact ee, fun F' v H' E1 T1 O1 => k F' v H' E1 T1 (Own.opd S0.pl (S0.pl.ext E1 T1) O1)⟩
theorem mk_cmp {o : Cp} : Mk G (.cmp o a b) := fun r => ⟨_, by rw [ev]⟩
theorem se_cmp (o : Cp) (ha : SE S W G x a) (hb : SE S W G y b) (hm : behindInMarks (cpOf o) y = false := by rfl) : SE S W G (.Compare x [cpOf o] [y] pos) (.cmp o a b) := fun X h => by
  refine SEx.of_FT h mk_cmp (PE.weak (pe_cmpR (op_cmp h.hK h.hP h.hw h.un o) (ha X h).o (hb X h).o hm) fun σ H Q q => ?_) (PT.weak (pt_cmpR (op_cmp h.hK h.hP h.hw h.un o) (ha X h).o (hb X h).o hm) fun σ H Q q => ?_)
  · obtain ⟨F, r, s, d, s', S0, ee, k⟩ := q
    rw [ev] at ee
    obtain ⟨p, e1, e2⟩ := Option.bind_eq_some_iff.mp ee
    obtain ⟨q, e3, e4⟩ := Option.bind_eq_some_iff.mp e2
    obtain ⟨c, e5, e6⟩ := Option.map_eq_some_iff.mp e4
    cases e6
    refine ⟨F, r, s, p.1, p.2, S0, e1, fun F1 v1 H1 E1 T1 O1 => ⟨F1, r, p.2, q.1, q.2, S0.ext E1 T1, e3, fun F2 v2 H2 E2 T2 O2 => ?_⟩⟩
    exact ⟨F2, p.1, q.1, c, E2.live, ((S0.pl.ext E1 T1).ext_opd E2 O1).1, O2.1, e5, k F2 _ H2 (E1.trans E2) T2 own_bl⟩
  · obtain ⟨F, r, s, d, s', S0, ee, k⟩ := q
    rw [ev] at ee
    obtain ⟨p0, e0, e00⟩ := Option.bind_eq_some_iff.mp ee
    obtain ⟨p, e1, e2⟩ := Option.bind_eq_some_iff.mp e0
    obtain ⟨q, e3, e4⟩ := Option.bind_eq_some_iff.mp e2
    obtain ⟨c, e5, e6⟩ := Option.map_eq_some_iff.mp e4
    cases e6
    cases e00
    refine ⟨F, r, s, p.1, p.2, S0, e1, fun F1 v1 H1 E1 T1 O1 => ⟨F1, r, p.2, q.1, q.2, S0.ext E1 T1, e3, fun F2 v2 H2 E2 T2 O2 => ?_⟩⟩
    exact ⟨F2, p.1, q.1, d, E2.live, ((S0.pl.ext E1 T1).ext_opd E2 O1).1, O2.1, e5, d, rfl, k F2 H2 (E1.trans E2) T2⟩
theorem mk_chain {o o' : Cp} : Mk G (.chain o o' a b c) := fun r => ⟨_, by rw [ev]⟩
theorem se_chain (o o' : Cp) (ha : SE S W G x a) (hb : SE S W G y b) (hc : SE S W G z c) (hm : lastMarks [cpOf o, cpOf o'] [y, z] = false := by with_unfolding_all rfl) : SE S W G (.Compare x [cpOf o, cpOf o'] [y, z] pos) (.chain o o' a b c) := fun X h => by
  refine SEx.of_FT h mk_chain (PE.weak (pe_chain (op_cmp h.hK h.hP h.hw h.un o) (op_cmp h.hK h.hP h.hw h.un o') (ha X h).o (hb X h).o (hc X h).o hm) fun σ H Q q => ?_) (PT.weak (pt_chain (op_cmp h.hK h.hP h.hw h.un o) (op_cmp h.hK h.hP h.hw h.un o') (ha X h).o (hb X h).o (hc X h).o hm) fun σ H Q q => ?_)
  · obtain ⟨F, r, s, d, s', S0, ee, k⟩ := q
    rw [ev] at ee
    obtain ⟨p, e1, e2⟩ := Option.bind_eq_some_iff.mp ee
    obtain ⟨q, e3, e4⟩ := Option.bind_eq_some_iff.mp e2
    obtain ⟨c1, e5, e6⟩ := Option.bind_eq_some_iff.mp e4
    refine ⟨F, r, s, p.1, p.2, S0, e1, fun F1 v1 H1 E1 T1 O1 => ⟨F1, r, p.2, q.1, q.2, S0.ext E1 T1, e3, fun F2 v2 H2 E2 T2 O2 => ?_⟩⟩
    have P2 := (S0.pl.ext E1 T1).ext E2 T2
    refine ⟨F2, p.1, q.1, c1, E2.live, ((S0.pl.ext E1 T1).ext_opd E2 O1).1, O2.1, e5, c1, rfl, ?_⟩
    cases c1 with
    | false => cases e6; exact k F2 _ H2 (E1.trans E2) T2 own_bl
    | true =>
      obtain ⟨u, e7, e8⟩ := Option.bind_eq_some_iff.mp e6
      obtain ⟨c2, e9, e10⟩ := Option.map_eq_some_iff.mp e8
      cases e10
      refine ⟨F2, r, q.2, u.1, u.2, (S0.ext E1 T1).ext E2 T2, e7, fun F3 v3 H3 E3 T3 O3 => ?_⟩
      exact ⟨F3, q.1, u.1, c2, E3.live, (P2.ext_opd E3 O2).1, O3.1, e9, k F3 _ H3 ((E1.trans E2).trans E3) T3 own_bl⟩
  · obtain ⟨F, r, s, d, s', S0, ee, k⟩ := q
    rw [ev] at ee
    obtain ⟨p0, e0, e00⟩ := Option.bind_eq_some_iff.mp ee
    obtain ⟨p, e1, e2⟩ := Option.bind_eq_some_iff.mp e0
    obtain ⟨q, e3, e4⟩ := Option.bind_eq_some_iff.mp e2
    obtain ⟨c1, e5, e6⟩ := Option.bind_eq_some_iff.mp e4
    refine ⟨F, r, s, p.1, p.2, S0, e1, fun F1 v1 H1 E1 T1 O1 => ⟨F1, r, p.2, q.1, q.2, S0.ext E1 T1, e3, fun F2 v2 H2 E2 T2 O2 => ?_⟩⟩
    have P2 := (S0.pl.ext E1 T1).ext E2 T2
    refine ⟨F2, p.1, q.1, c1, E2.live, ((S0.pl.ext E1 T1).ext_opd E2 O1).1, O2.1, e5, c1, rfl, ?_⟩
    cases c1 with
    | false => cases e6; cases e00; exact ⟨false, rfl, k F2 H2 (E1.trans E2) T2⟩
    | true =>
      obtain ⟨u, e7, e8⟩ := Option.bind_eq_some_iff.mp e6
      obtain ⟨c2, e9, e10⟩ := Option.map_eq_some_iff.mp e8
      cases e10
      cases e00
      refine ⟨F2, r, q.2, u.1, u.2, (S0.ext E1 T1).ext E2 T2, e7, fun F3 v3 H3 E3 T3 O3 => ?_⟩
      exact ⟨F3, q.1, u.1, d, E3.live, (P2.ext_opd E3 O2).1, O3.1, e9, d, rfl, k F3 H3 ((E1.trans E2).trans E3) T3⟩

/-! ### displays -/
theorem evs_len {r : Env} : ∀ {es : List E} {s : T} {ds : List D} {s' : T}, evs G es r s = some (ds, s') → ds.length = es.length
  | [], _, _, _, h => by rw [evs] at h; cases h; rfl
  | e :: es, _, _, _, h => by
    rw [evs] at h
    obtain ⟨p, e1, e2⟩ := Option.bind_eq_some_iff.mp h
    obtain ⟨c, e3, e4⟩ := Option.map_eq_some_iff.mp e2
    cases e4
    rw [List.length_cons, List.length_cons, evs_len (ds := c.1) (s' := c.2) e3]
theorem own_laid {F : Addr → Prop} {H : Hp} {s s' : T} {F1 : Addr → Prop} {H1 : Hp} {d : D} {v : V} {H2 : Hp} (P : Pl W F H s) (E1 : Ext W F H F1 H1) (T1 : Tp W s' H1) (n : New W F1 H1 d v H2) {Q : VK} (k : ∀ F' v H', Ext W F H F' H' → Tp W s' H' → Own W H F' H' d v → Q v H') : Q v H2 := by
  obtain ⟨F3, E3, T3, O3⟩ := New.own P E1 T1 n
  exact k F3 v H2 E3 T3 O3
theorem sf_tup {xs : List Expr} {es : List E} {k0 : Nat} (h1 : SA S W G xs es) (hl : es.length ≤ 1000 := by decide) : SF S W G (.Tuple xs k0 pos) (.tup es) := fun X h => by
  refine PE.weak (pe_tup (h1.v X h)) fun σ H Q q => ?_
  obtain ⟨F, r, s, d, s', S0, ee, k⟩ := q
  rw [ev] at ee
  obtain ⟨c, e3, e4⟩ := Option.map_eq_some_iff.mp ee
  cases e4
  refine ⟨F, r, s, c.1, c.2, S0, e3, fun F1 vs H1 E1 T1 R1 => ?_⟩
  have z : vs.length ≤ sizeLine := by rw [R1.length, evs_len (ds := c.1) (s' := c.2) e3]; exact Nat.le_of_lt (small1000 hl)
  exact ⟨z, fun p hp => own_laid S0.pl E1 T1 (New.tup E1.live hp z R1) k⟩
theorem sf_lst {xs : List Expr} {es : List E} (h1 : SA S W G xs es) (hl : es.length ≤ 1000 := by decide) : SF S W G (.List xs pos) (.lst es) := fun X h => by
  refine PE.weak (pe_lst (h1.v X h)) fun σ H Q q => ?_
  obtain ⟨F, r, s, d, s', S0, ee, k⟩ := q
  rw [ev] at ee
  obtain ⟨c, e3, e4⟩ := Option.map_eq_some_iff.mp ee
  cases e4
  refine ⟨F, r, s, c.1, c.2, S0, e3, fun F1 vs H1 E1 T1 R1 => ?_⟩
  have z : vs.length ≤ sizeLine := by rw [R1.length, evs_len (ds := c.1) (s' := c.2) e3]; exact Nat.le_of_lt (small1000 hl)
  exact ⟨z, fun p hp => own_laid S0.pl E1 T1 (New.lst E1.live hp z R1) k⟩
theorem mk_tup {es : List E} : Mk G (.tup es) := fun r => ⟨_, by rw [ev]⟩
theorem mk_lst {es : List E} : Mk G (.lst es) := fun r => ⟨_, by rw [ev]⟩
theorem se_tup {xs : List Expr} {es : List E} {k0 : Nat} (h1 : SA S W G xs es) (hl : es.length ≤ 1000 := by decide) : SE S W G (.Tuple xs k0 pos) (.tup es) := SF.se (fun _ _ => rfl) mk_tup (sf_tup h1 hl)
theorem se_lst {xs : List Expr} {es : List E} (h1 : SA S W G xs es) (hl : es.length ≤ 1000 := by decide) : SE S W G (.List xs pos) (.lst es) := SF.se (fun _ _ => rfl) mk_lst (sf_lst h1 hl)

/-! ### calls -/
theorem gl_of (h : Std S W G X) {n : Str} (hg : S.sc.names.lookup n = some .globalImplicit) : L2.Gl X n := by
  show X.env.scope.names.lookup n = _
  rw [h.hs]
  exact hg
theorem mk_call {i : Nat} {es : List E} : Mk G (.call i es) := fun r => ⟨_, by rw [ev]⟩
theorem se_call (i n : Nat) {m : Str} {p : Pos} {xs : List Expr} {es : List E} (hf : S.ft m = some (i, n)) (h1 : SA S W G (x :: xs) es) (hn : es.length = n := by rfl) (hg : S.sc.names.lookup m = some .globalImplicit := by rfl) (hdb : (m == ("__debug__" : Str)) = false := by decide) :
    SE S W G (.Call (.Name m p) (x :: xs) [] pos) (.call i es) := fun X h => by
  obtain ⟨k, f, fd, ps, F, hr, hm, hk, hb⟩ := h.cl m i n hf
  refine SEx.of_V (fun _ _ => rfl) h mk_call (PE.weak (pe_call F hr (gl_of h hg) hm hk hb .nil pass0 (h1.v X h) hdb (h1.head _) (h1.plain _ _)) fun σ H Q q => ?_)
  obtain ⟨F, r, s, d, s', S0, ee, k⟩ := q
  rw [ev] at ee
  obtain ⟨c, e3, e4⟩ := Option.bind_eq_some_iff.mp ee
  refine ⟨F, r, s, c.1, c.2, S0, e3, fun F1 vs H1 E1 T1 R1 => ?_⟩
  show spG _ _ _ _ _ _ _ _ (vs ++ []) _ _ _
  rw [List.append_nil]
  have z : vs.length = n := by rw [R1.length, evs_len (ds := c.1) (s' := c.2) e3]; exact hn
  exact ⟨W, F1, c.1, c.2, d, s', ⟨rfl, rfl, rfl⟩, rfl, rfl, S0.pl.ext E1 T1, R1, z, e4, fun F2 v H2 E2 T2 R2 => k F2 v H2 (E1.trans E2) T2 R2⟩
theorem se_call0 (i : Nat) {m : Str} {p : Pos} (hf : S.ft m = some (i, 0)) (hg : S.sc.names.lookup m = some .globalImplicit := by rfl) (hdb : (m == ("__debug__" : Str)) = false := by decide) :
    SE S W G (.Call (.Name m p) [] [] pos) (.call i []) := fun X h => by
  obtain ⟨k, f, fd, ps, F, hr, hm, hk, hb⟩ := h.cl m i 0 hf
  refine SEx.of_V (fun _ _ => rfl) h mk_call (PE.weak (pe_call0 F hr (gl_of h hg) hm hk hb .nil pass0 hdb) fun σ H Q q => ?_)
  obtain ⟨F, r, s, d, s', S0, ee, k⟩ := q
  rw [ev] at ee
  have e4 : G.cl i [] s = some (d, s') := by
    obtain ⟨c, e3, e4⟩ := Option.bind_eq_some_iff.mp (show ((evs G [] r s).bind fun p => G.cl i p.1 p.2) = some (d, s') from ee)
    rw [evs] at e3
    cases e3
    exact e4
  exact ⟨W, F, [], s, d, s', ⟨rfl, rfl, rfl⟩, rfl, rfl, S0.pl, rfl, rfl, e4, fun F2 v H2 E2 T2 R2 => k F2 v H2 E2 T2 R2⟩
def nmB (b : Bi) : Str := biNm b
def bltB : Bi → Bool
  | .int | .str | .list | .tuple => false
  | _ => true
theorem boot_bi : ∀ b : Bi, bootBuiltins (nmB b) = some (biVal b)
  | .len => by decide +kernel
  | .int => by decide +kernel
  | .str => by decide +kernel
  | .all => by decide +kernel
  | .any => by decide +kernel
  | .list => by decide +kernel
  | .tuple => by decide +kernel
  | .sorted => by decide +kernel
  | .sum => by decide +kernel
  | .max => by decide +kernel
  | .min => by decide +kernel
theorem nm_bi : ∀ b : Bi, nmB b ∈ btN ∧ nmB b ≠ "__name__" ∧ (nmB b == ("__debug__" : Str)) = false
  | .len => by decide +kernel
  | .int => by decide +kernel
  | .str => by decide +kernel
  | .all => by decide +kernel
  | .any => by decide +kernel
  | .list => by decide +kernel
  | .tuple => by decide +kernel
  | .sorted => by decide +kernel
  | .sum => by decide +kernel
  | .max => by decide +kernel
  | .min => by decide +kernel
theorem pe_bi (b : Bi) {p : Pos} {xs : List Expr} {r : List V → Hp → VK → Prop} {t : TA} (hc : CallR X (biVal b) r) (hg : L2.Gl X (nmB b)) (hm : X.mg (nmB b) = none) (ha : PA X (x :: xs) t) (he : starEach (x :: xs) X.env = (false, eval x X.env) :: starEach xs X.env) (hpl : (backTo pos (starEach xs X.env)).any (·.1) = false) :
    PE X (.Call (.Name (nmB b) p) (x :: xs) [] pos) (tCB r t) := by
  have h1 := boot_bi b
  obtain ⟨_, h2, h3⟩ := nm_bi b
  cases b with
  | int => exact pe_callTy hc hg hm h1 ha h2 h3 he hpl
  | str => exact pe_callTy hc hg hm h1 ha h2 h3 he hpl
  | list => exact pe_callTy hc hg hm h1 ha h2 h3 he hpl
  | tuple => exact pe_callTy hc hg hm h1 ha h2 h3 he hpl
  | _ => exact pe_callB hc hg hm h1 ha h2 h3 he hpl
theorem mk_bi {b : Bi} {es : List E} : Mk G (.bi b es) := fun r => ⟨_, by rw [ev]⟩
theorem sf_bi (b : Bi) {m : Str} {p : Pos} {xs : List Expr} {es : List E} (h1 : SA S W G (x :: xs) es) (hm : m = nmB b := by rfl) (hg : S.sc.names.lookup m = some .globalImplicit := by rfl) :
    SF S W G (.Call (.Name m p) (x :: xs) [] pos) (.bi b es) := fun X h => by
  subst hm
  refine PE.weak (pe_bi b (cr_bi h.hK h.hP h.hw h.calm h.un b) (gl_of h hg) (h.bt _ (nm_bi b).1) (h1.o X h) (h1.head _) (h1.plain _ _)) fun σ H Q q => ?_
  obtain ⟨F, r, s, d, s', S0, ee, k⟩ := q
  rw [ev] at ee
  obtain ⟨c, e3, e4⟩ := Option.bind_eq_some_iff.mp ee
  obtain ⟨d', e5, e6⟩ := Option.map_eq_some_iff.mp e4
  cases e6
  exact ⟨F, r, s, c.1, c.2, S0, e3, fun F1 vs H1 E1 T1 R1 => ⟨F1, c.1, d, E1.live, R1.top, e5, fun v H' n => own_laid S0.pl E1 T1 n k⟩⟩
theorem se_bi (b : Bi) {m : Str} {p : Pos} {xs : List Expr} {es : List E} (h1 : SA S W G (x :: xs) es) (hm : m = nmB b := by rfl) (hg : S.sc.names.lookup m = some .globalImplicit := by rfl) :
    SE S W G (.Call (.Name m p) (x :: xs) [] pos) (.bi b es) := SF.se (fun _ _ => rfl) mk_bi (sf_bi b h1 hm hg)
def nmT (t : Ty) : Str := tyNm t
theorem boot_ty : ∀ t : Ty, bootBuiltins (nmT t) = some (.type (tyNm t)) ∧ nmT t ∈ btN ∧ nmT t ≠ "__name__" ∧ (nmT t == ("__debug__" : Str)) = false
  | .int => by decide +kernel
  | .bool => by decide +kernel
  | .str => by decide +kernel
  | .tuple => by decide +kernel
  | .list => by decide +kernel
theorem mk_isi {t : Ty} : Mk G (.isi t a) := fun r => ⟨_, by rw [ev]⟩
theorem se_isi (t : Ty) {m i : Str} {p q : Pos} (ha : SE S W G x a) (hs : ∀ env, starEach [x, .Name m q] env = (false, eval x env) :: starEach [.Name m q] env := by intro _; rfl) (hm : m = nmT t := by rfl) (hi : i = "isinstance" := by rfl) (hg : S.sc.names.lookup m = some .globalImplicit := by rfl) (hg' : S.sc.names.lookup i = some .globalImplicit := by rfl) :
    SE S W G (.Call (.Name i p) [x, .Name m q] [] pos) (.isi t a) := SF.se (fun _ _ => rfl) mk_isi fun X h => by
  subst hm
  subst hi
  obtain ⟨b1, b2, b3, b4⟩ := boot_ty t
  have pt : PE X (.Name (nmT t) q) (tC (.ty (tyNm t))) := pe_bltn (gl_of h hg) (h.bt _ b2) b1 rfl b3 b4
  refine PE.weak (pe_callB (cr_isi h.hK t) (gl_of h hg') (h.bt _ (by decide +kernel)) boot_isinstance (pa_cons (ha X h).o (pa_cons pt pa_nil rfl) (hs _)) (by decide +kernel) (by decide +kernel) (hs _) rfl) fun σ H Q q => ?_
  obtain ⟨F, r, s, d, s', S0, ee, k⟩ := q
  rw [ev] at ee
  obtain ⟨c, e3, e4⟩ := Option.bind_eq_some_iff.mp ee
  obtain ⟨d', e5, e6⟩ := Option.map_eq_some_iff.mp e4
  cases e6
  exact ⟨F, r, s, c.1, c.2, S0, e3, fun F1 v H1 E1 T1 O1 => ⟨F1, c.1, v, d', E1.live, rfl, O1.1, e5, k F1 _ H1 E1 T1 own_bl⟩⟩

/-! ### subscripts, slices -/
theorem mk_sub : Mk G (.sub a b) := fun r => ⟨_, by rw [ev]⟩
theorem se_sub (ha : SE S W G x a) (hb : SE S W G y b) (hs : PlainIx y := by intro _ _; rfl) : SE S W G (.Subscript x y pos) (.sub a b) := fun X h => by
  refine SEx.of_V (fun _ _ => rfl) h mk_sub (PE.weak (pe_ix (ix_sub h.hK h.hP h.hw h.un) (ha X h).o (hb X h).o hs) fun σ H Q q => ?_)
  obtain ⟨F, r, s, d, s', S0, ee, k⟩ := q
  rw [ev] at ee
  obtain ⟨p, e1, e2⟩ := Option.bind_eq_some_iff.mp ee
  obtain ⟨q, e3, e4⟩ := Option.bind_eq_some_iff.mp e2
  obtain ⟨c, e5, e6⟩ := Option.map_eq_some_iff.mp e4
  cases e6
  refine ⟨F, r, s, p.1, p.2, S0, e1, fun F1 v1 H1 E1 T1 O1 => ⟨F1, r, p.2, q.1, q.2, S0.ext E1 T1, e3, fun F2 v2 H2 E2 T2 O2 => ?_⟩⟩
  exact ⟨F2, p.1, q.1, d, E2.live, ((S0.pl.ext E1 T1).ext_opd E2 O1).1, O2.1, e5, fun v R => k F2 v H2 (E1.trans E2) T2 R⟩
theorem so_none : SO S W G none none := fun X h => PO.weak po_none fun σ H Q q => by
  obtain ⟨F, r, s, d, s', S0, ee, k⟩ := q
  rw [evo?] at ee
  cases ee
  exact k F H (Ext.refl S0.f2) S0.tape
theorem so_some (ha : SE S W G x a) : SO S W G (some x) (some a) := fun X h => PO.weak (po_some (ha X h).o) fun σ H Q q => by
  obtain ⟨F, r, s, d, s', S0, ee, k⟩ := q
  rw [evo?] at ee
  obtain ⟨p, e1, e2⟩ := Option.map_eq_some_iff.mp ee
  cases e2
  exact ⟨F, r, s, .int p.1, p.2, S0, intO_some e1, fun F1 v1 H1 E1 T1 O1 => ⟨p.1, O1.1.int, k F1 H1 E1 T1⟩⟩
theorem mk_sli {lo hi : Option E} : Mk G (.sli a lo hi) := fun r => ⟨_, by rw [ev]⟩
theorem sf_sli {l u : Option Expr} {lo hi : Option E} {p2 : Pos} (ha : SE S W G x a) (hl : SO S W G l lo) (hu : SO S W G u hi) : SF S W G (.Subscript x (.Slice l u none p2) pos) (.sli a lo hi) := fun X h => by
  refine PE.weak (pe_slice (sl_cut h.hK) (ha X h).o (hl X h) (hu X h)) fun σ H Q q => ?_
  obtain ⟨F, r, s, d, s', S0, ee, k⟩ := q
  rw [ev] at ee
  obtain ⟨p, e1, e2⟩ := Option.bind_eq_some_iff.mp ee
  obtain ⟨l1, e3, e4⟩ := Option.bind_eq_some_iff.mp e2
  obtain ⟨u1, e5, e6⟩ := Option.bind_eq_some_iff.mp e4
  obtain ⟨c, e7, e8⟩ := Option.map_eq_some_iff.mp e6
  cases e8
  refine ⟨F, r, s, p.1, p.2, S0, e1, fun F1 v1 H1 E1 T1 O1 => ⟨F1, r, p.2, l1.1, l1.2, S0.ext E1 T1, e3, fun F2 H2 E2 T2 => ⟨F2, r, l1.2, u1.1, u1.2, (S0.ext E1 T1).ext E2 T2, e5, fun F3 H3 E3 T3 => ?_⟩⟩⟩
  exact ⟨F3, p.1, d, E3.live, ((S0.pl.ext E1 T1).ext_opd (E2.trans E3) O1).1, e7, fun v H' n => own_laid S0.pl ((E1.trans E2).trans E3) T3 n k⟩
theorem se_sli {l u : Option Expr} {lo hi : Option E} {p2 : Pos} (ha : SE S W G x a) (hl : SO S W G l lo) (hu : SO S W G u hi) : SE S W G (.Subscript x (.Slice l u none p2) pos) (.sli a lo hi) := SF.se (fun _ _ => rfl) mk_sli (sf_sli ha hl hu)
theorem mk_rev : Mk G (.rev a) := fun r => ⟨_, by rw [ev]⟩
theorem sf_rev {k0 : Nat} {p1 p2 p3 : Pos} (ha : SE S W G x a) : SF S W G (.Subscript x (.Slice none none (some (.UnaryOp .USub (.Constant (.int 1) k0 p1) p2)) p3) pos) (.rev a) := fun X h => by
  refine PE.weak (pe_rev h.hK (ha X h).o) fun σ H Q q => ?_
  obtain ⟨F, r, s, d, s', S0, ee, k⟩ := q
  rw [ev] at ee
  obtain ⟨p, e1, e2⟩ := Option.bind_eq_some_iff.mp ee
  split at e2
  · cases e2
  · rename_i hn
    obtain ⟨c, e7, e8⟩ := Option.map_eq_some_iff.mp e2
    cases e8
    exact ⟨F, r, s, p.1, p.2, S0, e1, fun F1 v1 H1 E1 T1 O1 => ⟨F1, p.1, d, E1.live, O1.1, by simpa using hn, e7, fun v H' n => own_laid S0.pl E1 T1 n k⟩⟩
theorem se_rev {k0 : Nat} {p1 p2 p3 : Pos} (ha : SE S W G x a) : SE S W G (.Subscript x (.Slice none none (some (.UnaryOp .USub (.Constant (.int 1) k0 p1) p2)) p3) pos) (.rev a) := SF.se (fun _ _ => rfl) mk_rev (sf_rev ha)
end
end Ip

/-! IpH: what a loop walks, targets, list comprehensions. -/
namespace Ip
open PySem PySem.Spec PyProof.Rows L2

/-! ### slots: setting, wiping -/
theorem get_wipe : ∀ (vs : List Nat) (σ : L2.St) (i : Nat), (wipe σ vs)[i]? = if i ∈ vs then (σ[i]?).map (fun _ => none) else σ[i]?
  | [], σ, i => by simp [wipe]
  | v :: vs, σ, i => by
    unfold wipe
    rw [List.getElem?_set, get_wipe vs σ i]
    by_cases h : v = i
    · subst h
      rw [if_pos rfl, if_pos List.mem_cons_self, wipe_length]
      by_cases hl : v < σ.length
      · rw [if_pos hl]; simp [hl]
      · rw [if_neg hl]; simp [hl]
    · rw [if_neg h]
      by_cases h2 : i ∈ vs
      · rw [if_pos h2, if_pos (List.mem_cons_of_mem _ h2)]
      · rw [if_neg h2, if_neg (by simp; exact ⟨fun e => h e.symm, h2⟩)]
theorem wipeE_len : ∀ (vs : List Nat) (r : Env), (wipeE r vs).length = r.length
  | [], _ => rfl
  | v :: vs, r => by unfold wipeE; rw [List.length_set, wipeE_len vs r]
theorem get_wipeE : ∀ (vs : List Nat) (r : Env) (i : Nat), (wipeE r vs)[i]? = if i ∈ vs then (r[i]?).map (fun _ => none) else r[i]?
  | [], r, i => by simp [wipeE]
  | v :: vs, r, i => by
    unfold wipeE
    rw [List.getElem?_set, get_wipeE vs r i]
    by_cases h : v = i
    · subst h
      rw [if_pos rfl, if_pos List.mem_cons_self, wipeE_len]
      by_cases hl : v < r.length
      · rw [if_pos hl]; simp [hl]
      · rw [if_neg hl]; simp [hl]
    · rw [if_neg h]
      by_cases h2 : i ∈ vs
      · rw [if_pos h2, if_pos (List.mem_cons_of_mem _ h2)]
      · rw [if_neg h2, if_neg (by simp; exact ⟨fun e => h e.symm, h2⟩)]
theorem wipe_eq {vs : List Nat} {σ σ' : L2.St} (hl : σ'.length = σ.length) (h : ∀ i, i ∉ vs → σ'[i]? = σ[i]?) : wipe σ' vs = wipe σ vs := by
  apply List.ext_getElem?
  intro i
  rw [get_wipe, get_wipe]
  by_cases hi : i ∈ vs
  · rw [if_pos hi, if_pos hi]
    by_cases hz : i < σ.length
    · rw [List.getElem?_eq_getElem hz, List.getElem?_eq_getElem (by omega)]; rfl
    · rw [List.getElem?_eq_none (by omega), List.getElem?_eq_none (by omega)]
  · rw [if_neg hi, if_neg hi, h i hi]
theorem set_some {α : Type} {l : List α} {i j : Nat} {x y : α} (h : (l.set i x)[j]? = some y) : (j = i ∧ y = x ∧ i < l.length) ∨ (j ≠ i ∧ l[j]? = some y) := by
  rw [List.getElem?_set] at h
  by_cases e : i = j
  · rw [if_pos e] at h
    split at h
    · cases h; exact .inl ⟨e.symm, rfl, by assumption⟩
    · cases h
  · rw [if_neg e] at h
    exact .inr ⟨fun q => e q.symm, h⟩
theorem set_at {α : Type} {l : List α} {i : Nat} {x : α} (h : i < l.length) : (l.set i x)[i]? = some x := by
  rw [List.getElem?_set, if_pos rfl, if_pos h]
theorem set_off {α : Type} {l : List α} {i j : Nat} {x : α} (h : j ≠ i) : (l.set i x)[j]? = l[j]? := by
  rw [List.getElem?_set, if_neg (fun e => h e.symm)]
section
variable {W : Wd} {F F' : Addr → Prop} {H H' : Hp} {r : Env} {s s' : T} {σ : L2.St}
theorem Sim.wiped (S : Sim W F r s σ H) (vs : List Nat) : Sim W F (wipeE r vs) s (wipe σ vs) H where
  len := by rw [wipeE_len, wipe_length]; exact S.len
  val := fun i d h => by
    rw [get_wipeE] at h
    split at h
    · cases q : r[i]? <;> rw [q] at h <;> cases h
    · rename_i hi
      rw [get_wipe, if_neg hi]
      exact S.val i d h
  own := fun i d h => by
    rw [get_wipeE] at h
    split at h
    · cases q : r[i]? <;> rw [q] at h <;> cases h
    · rename_i hi
      rw [get_wipe, if_neg hi]
      exact S.own i d h
  dis := fun i j d d' a hij h1 h2 h3 h4 => by
    rw [get_wipeE] at h1 h2
    split at h1
    · cases q : r[i]? <;> rw [q] at h1 <;> cases h1
    · rename_i hi
      split at h2
      · cases q : r[j]? <;> rw [q] at h2 <;> cases h2
      · rename_i hj
        rw [get_wipe, if_neg hi] at h3
        rw [get_wipe, if_neg hj] at h4
        exact S.dis i j d d' a hij h1 h2 h3 h4
  old := S.old
  f0 := S.f0
  f1 := S.f1
  f2 := S.f2
  f3 := S.f3
  tape := S.tape
theorem Sim.setv (S : Sim W F r s σ H) (i : Nat) {d : D} {v : V} (h : Rep W F H d v) : Sim W F (r.set i (some (false, d))) s (σ.set i (some v)) H where
  len := by rw [List.length_set, List.length_set]; exact S.len
  val := fun j d' q => by
    rcases set_some q with ⟨rfl, e, hl⟩ | ⟨ne, q⟩
    · cases e
      exact ⟨v, set_at (by rw [← S.len]; exact hl), h⟩
    · rw [set_off ne]
      exact S.val j d' q
  own := fun j d' q => by
    rcases set_some q with ⟨_, e, _⟩ | ⟨ne, q⟩
    · cases e
    · rw [set_off ne]
      exact S.own j d' q
  dis := fun j k d1 d2 a hjk h1 h2 h3 h4 => by
    rcases set_some h1 with ⟨_, e, _⟩ | ⟨ne, h1⟩
    · cases e
    · rcases set_some h2 with ⟨_, e, _⟩ | ⟨ne', h2⟩
      · cases e
      · rw [set_off ne] at h3
        rw [set_off ne'] at h4
        exact S.dis j k d1 d2 a hjk h1 h2 h3 h4
  old := S.old
  f0 := S.f0
  f1 := S.f1
  f2 := S.f2
  f3 := S.f3
  tape := S.tape
theorem Sim.newH0 (S : Sim W F r s σ H) {a : Addr} (h : H a = none) : W.H0 a = none ∧ a ≠ W.ba ∧ a ≠ W.ca := by
  have n1 : a ≠ W.ba := fun e => S.tape.ba_some (e ▸ h)
  have n2 : a ≠ W.ca := fun e => S.tape.ca_some (e ▸ h)
  refine ⟨?_, n1, n2⟩
  cases q : W.H0 a with
  | none => rfl
  | some o => rw [S.old a o q n1 n2] at h; cases h
/-- a made thing is put into a slot as one's own -/
theorem Sim.seto (S : Sim W F r s σ H) (E1 : Ext W F H F' H') (t : Tp W s' H') (i : Nat) {d : D} {v : V} (h : Own W H F' H' d v) : Sim W F' (setO r i true d) s' (σ.set i (some v)) H' := by
  have S1 := S.ext E1 t
  unfold setO
  unfold Own at h
  by_cases m : isMut d = true
  · rw [if_pos m] at h
    obtain ⟨a, rfl, h0, nf, hn, tp⟩ := h
    obtain ⟨z0, z1, z2⟩ := S.newH0 h0
    have oth : ∀ (j : Nat) (d' : D) (b : Addr), r[j]? = some (some (true, d')) → σ[j]? = some (some (.ref b)) → b ≠ a := by
      intro j d' b q e
      obtain ⟨b', e', _, _, _, hn', _⟩ := S.own j d' q
      rw [e] at e'
      cases e'
      exact fun z => hn' (z ▸ h0)
    have e0 : (true && isMut d) = true := by simpa using m
    rw [e0]
    exact {
      len := by rw [List.length_set, List.length_set]; exact S.len
      val := fun j d' q => by
        rcases set_some q with ⟨_, e, _⟩ | ⟨ne, q⟩
        · cases e
        · rw [set_off ne]
          exact S1.val j d' q
      own := fun j d' q => by
        rcases set_some q with ⟨rfl, e, hl⟩ | ⟨ne, q⟩
        · cases e
          exact ⟨a, set_at (by rw [← S.len]; exact hl), tp, nf, z0, hn, z1, z2⟩
        · rw [set_off ne]
          exact S1.own j d' q
      dis := fun j k d1 d2 b hjk h1 h2 h3 h4 => by
        rcases set_some h1 with ⟨rfl, e, hl⟩ | ⟨ne, q1⟩
        · rcases set_some h2 with ⟨e2, _, _⟩ | ⟨ne', q2⟩
          · exact hjk e2.symm
          · rw [set_off ne'] at h4
            rw [set_at (by rw [← S.len]; exact hl)] at h3
            cases h3
            exact oth k d2 a q2 h4 rfl
        · rcases set_some h2 with ⟨rfl, e, hl⟩ | ⟨ne', q2⟩
          · rw [set_off ne] at h3
            rw [set_at (by rw [← S.len]; exact hl)] at h4
            cases h4
            exact oth j d1 a q1 h3 rfl
          · rw [set_off ne] at h3
            rw [set_off ne'] at h4
            exact S1.dis j k d1 d2 b hjk q1 q2 h3 h4
      old := S1.old
      f0 := S1.f0
      f1 := S1.f1
      f2 := S1.f2
      f3 := S1.f3
      tape := S1.tape }
  · rw [if_neg m] at h
    have e : (true && isMut d) = false := by simpa using m
    rw [e]
    exact S1.setv i h
end

/-! ### what a loop walks -/
def Yl (W : Wd) (F : Addr → Prop) (H : Hp) (d : D) (x : V) (H2 : Hp) : Prop := (H2 = H ∧ Rep W F H d x) ∨ (∃ a o, x = .ref a ∧ H a = none ∧ H2 = upd H a o ∧ Fre W F H2 d a)
structure Wlk (W : Wd) (F : Addr → Prop) (H : Hp) (J : It) (xs : List D) (L : List Addr) : Prop where
  ne : ∀ a ∈ L, a ≠ W.ba ∧ a ≠ W.ca ∧ H a ≠ none
  sz : xs.length ≤ sizeLine
  w : Walk J xs.length (fun H2 => ∀ a ∈ L, H2 a = H a) (fun i H1 x H2 => ∀ d, xs[i]? = some d → ∀ F2, (∀ a, F a → F2 a) → (∀ a, F a → H1 a = H a) → Fok F2 H1 → Yl W F2 H1 d x H2)
section
variable {W : Wd} {F F' F2 : Addr → Prop} {H H' H2 : Hp} {s s' : T}
theorem Yl.rep {d : D} {x : V} (P : Pl W F H s) (h : Yl W F H d x H2) : ∃ F2, Ext W F H F2 H2 ∧ Tp W s H2 ∧ Rep W F2 H2 d x := by
  rcases h with ⟨rfl, h⟩ | ⟨a, o, rfl, ha, rfl, fr⟩
  · exact ⟨F, Ext.refl P.f2, P.tape, h⟩
  · exact ⟨_, (Ext.laid P.f2 ha).freeze ha (by rw [upd_same]; simp), P.tape.laid ha, fr.freeze⟩
theorem its_vals {J : It} {ds : List D} {vs : List V} {L : List Addr} (ne : ∀ a ∈ L, a ≠ W.ba ∧ a ≠ W.ca ∧ H a ≠ none) (hz : vs.length ≤ sizeLine) (R : RepL W F H ds vs) (w : Walk J vs.length (fun H2 => ∀ a ∈ L, H2 a = H a) (YAt vs)) : Wlk W F H J ds L := by
  refine ⟨ne, by rw [← R.length]; exact hz, ?_⟩
  rw [← R.length]
  refine w.mono (fun _ h => h) fun i H1 x H2 hi hg y d hd F2 hF hH _ => ?_
  obtain ⟨rfl, e⟩ := y
  obtain ⟨v', e', r'⟩ := R.get hd
  rw [e] at e'
  cases e'
  exact .inl ⟨rfl, Rep.mono hF hH d x r'⟩
theorem its_lst {a : Addr} {ds : List D} {vs : List V} (hz : vs.length ≤ sizeLine) (q : H a = some (.lst vs)) (R : RepL W F H ds vs) (n : a ≠ W.ba ∧ a ≠ W.ca) : Wlk W F H (Itl W.K a) ds [a] :=
  its_vals (by
    intro b hb
    simp only [List.mem_singleton] at hb
    subst hb
    exact ⟨n.1, n.2, by rw [q]; simp⟩) hz R ((walk_list (K := W.K) (a := a) (xs := vs)).mono (fun H2 h => SqL.of ((h a List.mem_cons_self).trans q)) fun _ _ _ _ _ _ y => y)
/-- the heap's part in a tuple's standing -/
def tpL (H : Hp) (a : Addr) : List Addr := match H a with
  | some _ => [a]
  | none => []
theorem tup_L {a : Addr} {vs : List V} (P : Pl W F H s) (q : (F a ∧ H a = some (.tup vs)) ∨ KTup W.K a vs) : ∃ L : List Addr, (∀ b ∈ L, F b ∧ b ≠ W.ba ∧ b ≠ W.ca ∧ H b ≠ none) ∧ ∀ H2 : Hp, (∀ b ∈ L, H2 b = H b) → SqT W.K H2 a vs := by
  rcases q with ⟨f, q⟩ | q
  · refine ⟨[a], ?_, fun H2 h => SqT.of ((h a List.mem_cons_self).trans q)⟩
    intro b hb
    simp only [List.mem_singleton] at hb
    subst hb
    exact ⟨f, fun e => P.f3.1 (e ▸ f), fun e => P.f3.2 (e ▸ f), by rw [q]; simp⟩
  · exact ⟨[], by simp, fun H2 _ => .inr q⟩
theorem its_tup {a : Addr} {ds : List D} {vs : List V} (P : Pl W F H s) (hz : vs.length ≤ sizeLine) (q : (F a ∧ H a = some (.tup vs)) ∨ KTup W.K a vs) (R : RepL W F H ds vs) : ∃ L, Wlk W F H (Itt W.K a) ds L ∧ ∀ b ∈ L, F b := by
  obtain ⟨L, hL, hs⟩ := tup_L P q
  exact ⟨L, its_vals (fun b hb => (hL b hb).2) hz R ((walk_tup (K := W.K) (a := a) (xs := vs)).mono (fun H2 h => hs H2 h) fun _ _ _ _ _ _ y => y), fun b hb => (hL b hb).1⟩
theorem its_rng {lo : Int} {n : Nat} (hz : n ≤ sizeLine) : Wlk W F H (Itr lo n) (rngL lo n) [] := by
  have hl : (rngL lo n).length = n := by unfold rngL; rw [List.length_map, List.length_range]
  refine ⟨by simp, by rw [hl]; exact hz, ?_⟩
  rw [hl]
  refine (walk_range (lo := lo) (n := n)).mono (fun _ _ => trivial) fun i H1 x H2 hi hg y d hd F2 hF hH _ => ?_
  obtain ⟨rfl, rfl⟩ := y
  unfold rngL at hd
  rw [List.getElem?_map, List.getElem?_range hi] at hd
  cases hd
  exact .inl ⟨rfl, rfl⟩
theorem its_rngC {lo c : Int} {n : Nat} (hz : n ≤ sizeLine) : Wlk W F H (Itc lo c n) (rngCL lo c n) [] := by
  have hl : (rngCL lo c n).length = n := by unfold rngCL; rw [List.length_map, List.length_range]
  refine ⟨by simp, by rw [hl]; exact hz, ?_⟩
  rw [hl]
  refine (walk_rangeC (lo := lo) (c := c) (n := n)).mono (fun _ _ => trivial) fun i H1 x H2 hi hg y d hd F2 hF hH _ => ?_
  obtain ⟨rfl, rfl⟩ := y
  unfold rngCL at hd
  rw [List.getElem?_map, List.getElem?_range hi] at hd
  cases hd
  exact .inl ⟨rfl, rfl⟩
theorem its_str {t : List Nat} (hz : t.length ≤ sizeLine) : Wlk W F H (Its ⟨t.toArray⟩) (t.map fun c => .str [c]) [] := by
  have hl : (t.map fun c => D.str [c]).length = (⟨t.toArray⟩ : Str).cps.size := by rw [List.length_map]; simp
  refine ⟨by simp, by rw [List.length_map]; exact hz, ?_⟩
  rw [hl]
  refine (walk_str (z := ⟨t.toArray⟩)).mono (fun _ _ => trivial) fun i H1 x H2 hi hg y d hd F2 hF hH _ => ?_
  obtain ⟨rfl, c, hc, rfl⟩ := y
  rw [List.getElem?_map] at hd
  have hc' : t[i]? = some c := by simpa using hc
  rw [hc'] at hd
  cases hd
  refine .inl ⟨rfl, ?_⟩
  simp only [Rep]
end
end Ip

/-! IpT: a dict walked by its keys. -/
namespace Ip
open PySem PySem.Spec PyProof.Rows L2
/-- what is read one by one off the dict o at d -/
def ItP (d : Addr) (o : Obj) (vs : List V) : It := ⟨fun i H => H d = some (pin d o) ∧ i < vs.length, fun i H x H' => H' = H ∧ vs[i]? = some x, fun i H => H d = some (pin d o) ∧ vs.length ≤ i⟩
theorem walk_pin {d : Addr} {o : Obj} {vs : List V} : Walk (ItP d o vs) vs.length (fun H => H d = some (pin d o)) (YAt vs) := ⟨fun _ _ hi q => ⟨q, hi⟩, fun _ q => ⟨q, Nat.le_refl _⟩, fun _ _ _ _ _ _ y => y⟩
section
variable {P : Program} {w : World} {K : PySem.W.Frag} {tg : Expr} {d : Addr} {o : Obj} {es : Array DictEntry} {ep : Nat}
theorem turn_pkeys {vs : List V} (it : Addr) (hx : o.ExactDict) (hod : o.data = .dict es ep) (hv : Vals vs (es.toList.map (·.key))) : Turn P w K tg (ItP d o vs) [it] it (fun i h => h.IsKeyIter it d i vs.length ep) where
  mem := by simp
  obj := fun i h st b hb => by
    have e : b = it := by simpa using hb
    subst e
    obtain ⟨oi, e, c, dd⟩ := st
    exact ⟨oi, e, fun v z => by rw [dd] at z; cases z⟩
  keep := fun i h h' st k => st.at fun oi e => k it (by simp) oi e
  item := by
    intro X hP hw hK hc i pins s σ H E I hf st hg
    subst hP hw hK
    obtain ⟨hd, hi⟩ := hg
    obtain ⟨f0, f1, f2, f3, f4, f5⟩ := hf it (by simp)
    have hl : vs.length = es.size := by rw [hv.length, List.length_map, Array.length_toList]
    have hr : s.heap.DictRaw d es ep := ⟨o, pin_of I hd, hx, hod⟩
    rw [hl] at st
    refine wpAny_pyNext_keys_item_raw st hr (by omega) fun h' st' sb => ?_
    obtain ⟨v, hv1⟩ : ∃ v, vs[i]? = some v := ⟨vs[i], List.getElem?_eq_getElem hi⟩
    obtain ⟨u, hu, ru⟩ := hv.get hv1
    have hi' : i < es.size := by omega
    have eu : u = es[i].key := by
      rw [List.getElem?_map, Array.getElem?_toList, Array.getElem?_eq_getElem hi'] at hu
      exact (Option.some.inj hu).symm
    subst eu
    have I1 : Inv X pins σ H { s with heap := h' } := I.turned (t' := s.toks) (fun b ob hb e => (sb.2 b hb).trans e) f0 f1 f3 f4 f5
    obtain ⟨oi, e, c, dd⟩ := id st'
    refine ⟨_, rfl, go_of (s := { s with heap := h' }) e c dd (by decide) ⟨v, H, I1, ru, ⟨rfl, hv1⟩, ?_, fun b hb => (hf b hb).1⟩⟩
    show h'.IsKeyIter it d (i + 1) vs.length _
    rw [hl]
    exact st'
  done := by
    intro X hP hw hK hc i pins s σ H E I hf st hg
    subst hP hw hK
    obtain ⟨hd, hi⟩ := hg
    obtain ⟨f0, f1, f2, f3, f4, f5⟩ := hf it (by simp)
    have hl : vs.length = es.size := by rw [hv.length, List.length_map, Array.length_toList]
    have hr : s.heap.DictRaw d es ep := ⟨o, pin_of I hd, hx, hod⟩
    rw [hl] at st
    exact wpAny_pyNext_keys_end_raw (I.ok.hd hc) st hr (by omega) fun h' eb => ⟨rfl, I.turned (t' := s.toks) (fun b ob hb e => eb b ob hb e) f0 f1 f3 f4 f5⟩
  self := fun A i s Q E st h => wpAny_pyIter_keyiter st h
end
section
variable {W : Wd} {F : Addr → Prop} {H : Hp} {X : Cx} {pins : List (Addr × Obj)} {σ : L2.St} {s : Shared} {kvs : List (D × D)} {a : Addr} {tg e : Expr}
/-- what is known of a dict that is walked -/
def PkOk (o : Obj) (vs : List V) : Prop := o.ExactDict ∧ ∃ es ep, o.data = .dict es ep ∧ Vals vs (es.toList.map (·.key))
def iPin (td : TE) : TI := fun σ H R => td σ H fun x H1 => ∃ d o vs, x = .ref d ∧ (d == sysModules) = false ∧ H1 d = some (pin d o) ∧ PkOk o vs ∧ R (ItP d o vs) H1
theorem pi_pin {td : TE} (he : PE X e td) : PI X tg e (iPin td) := by
  refine ⟨fun pins s σ H R I h => ?_⟩
  refine thn (he.run pins s σ H _ I h) fun u s1 ⟨x, H1, I1, rx, d, o, vs, ex, hs, hd, ⟨hx, es, ep, hdt, hv⟩, q⟩ => ?_
  subst ex
  obtain rfl : u = Value.ref d := rx
  have hl : vs.length = es.size := by rw [hv.length, List.length_map, Array.length_toList]
  refine wpAny_pyIter_dict_raw (es := es) (ep := ep) hs ⟨o, pin_of I1 hd, hx, hdt⟩ (pi_one (tk := s1.toks) I1 _ (turn_pkeys _ hx hdt hv) ⟨_, Heap.get?_push_size _ rfl, rfl, ?_⟩ q)
  rw [hl] <;> rfl
theorem Dic.pin (h : Dic W F H kvs a) : ∃ o us, H a = some (Ip.pin a o) ∧ (a == sysModules) = false ∧ us.length ≤ sizeLine ∧ RepE W F H kvs us ∧ PkOk o (us.map (·.1)) := by
  obtain ⟨o, us, h1, h2, h3⟩ := h
  obtain ⟨x1, _⟩ := h2.exact
  obtain ⟨arr, ep, x2, x3⟩ := h2.entries
  exact ⟨o, us, h1, h2.1, h2.2.1, h3, x1, arr, ep, x2, (vals_keys x3).1⟩
theorem its_dic {o : Obj} {us : List (V × V)} (h1 : H a = some (Ip.pin a o)) (hz : us.length ≤ sizeLine) (R : RepE W F H kvs us) (n : a ≠ W.ba ∧ a ≠ W.ca) : Wlk W F H (ItP a o (us.map (·.1))) (dKeys kvs) [a] :=
  its_vals (by
    intro b hb
    simp only [List.mem_singleton] at hb
    subst hb
    exact ⟨n.1, n.2, by rw [h1]; simp⟩) (by rw [List.length_map]; exact hz) R.keys ((walk_pin (d := a) (o := o) (vs := us.map (·.1))).mono (fun H2 h => (h a List.mem_cons_self).trans h1) fun _ _ _ _ _ _ y => y)
end
end Ip

/-! IpI: iterables, targets, list comprehensions: the rules. -/
namespace Ip
open PySem PySem.Spec PyProof.Rows L2
def iO (W : Wd) (G : Gl) (k : Ik) (es : List E) : TI := fun σ H R => ∃ F r s ds s' xs, Sim W F r s σ H ∧ evos G es r s = some (ds, s') ∧ itD k ds = some xs ∧ ∀ F' H' J L, Ext W F H F' H' → Tp W s' H' → Wlk W F' H' J xs L → R J H'
def iV (W : Wd) (G : Gl) (k : Ik) (es : List E) : TI := fun σ H R => ∃ F r s ds s' xs, Sim W F r s σ H ∧ evs G es r s = some (ds, s') ∧ itD k ds = some xs ∧ ∀ F' H' J L, Ext W F H F' H' → Tp W s' H' → Wlk W F' H' J xs L → (∀ a ∈ L, F' a) → R J H'
structure SIx (X : Cx) (W : Wd) (G : Gl) (tg x : Expr) (k : Ik) (es : List E) : Prop where
  o : PI X tg x (iO W G k es)
  v : PI X tg x (iV W G k es)
def SI (S : Sc) (W : Wd) (G : Gl) (tg x : Expr) (k : Ik) (es : List E) : Prop := ∀ X, Std S W G X → SIx X W G tg x k es
section
variable {S : Sc} {W : Wd} {G : Gl} {X : Cx} {x y z tg : Expr} {a b c e : E} {pos : Pos}
theorem evos_one {r : Env} {s : T} {ds : List D} {s' : T} (h : evos G [a] r s = some (ds, s')) : ∃ d, ds = [d] ∧ (ev G a r).o s = some (d, s') := by
  rw [evos] at h
  obtain ⟨p, e1, e2⟩ := Option.bind_eq_some_iff.mp h
  obtain ⟨q, e3, e4⟩ := Option.map_eq_some_iff.mp e2
  rw [evos] at e3
  cases e3
  cases e4
  exact ⟨p.1, rfl, e1⟩
theorem evs_one {r : Env} {s : T} {ds : List D} {s' : T} (h : evs G [a] r s = some (ds, s')) : ∃ d, ds = [d] ∧ (ev G a r).v s = some (d, s') := by
  rw [evs] at h
  obtain ⟨p, e1, e2⟩ := Option.bind_eq_some_iff.mp h
  obtain ⟨q, e3, e4⟩ := Option.map_eq_some_iff.mp e2
  rw [evs] at e3
  cases e3
  cases e4
  exact ⟨p.1, rfl, e1⟩
theorem rep_lst {F : Addr → Prop} {H : Hp} {ds : List D} {v : V} (h : Rep W F H (.lst ds) v) : ∃ a vs, v = .ref a ∧ vs.length ≤ sizeLine ∧ F a ∧ H a = some (.lst vs) ∧ RepL W F H ds vs := by
  simp only [Rep] at h
  obtain ⟨a, vs, e, z, ⟨f, q⟩, r⟩ := h
  exact ⟨a, vs, e, z, f, q, r⟩
/-- one thing: a list, a tuple, a text -/
theorem si_seq (ha : SE S W G x a) : SI S W G tg x .seq [a] := fun X h => by
  refine ⟨⟨fun pins s σ H R I q => ?_⟩, ⟨fun pins s σ H R I q => ?_⟩⟩
  · obtain ⟨F, r, s0, ds, s', xs, S0, ee, ei, k⟩ := q
    obtain ⟨d, rfl, e1⟩ := evos_one ee
    cases d with
    | str t =>
      simp only [itD] at ei
      split at ei
      · rename_i hz
        cases ei
        refine (pi_str (tg := tg) (ha X h).o).run pins s σ H R I ⟨F, r, s0, _, s', S0, e1, fun F' v H' E1 T1 O1 => ⟨_, O1.1.str, k F' H' _ [] E1 T1 (its_str (szL_eq ▸ hz))⟩⟩
      · cases ei
    | lst ys =>
      cases ei
      refine (pi_list (tg := tg) (ha X h).o).run pins s σ H R I ⟨F, r, s0, _, s', S0, e1, fun F' v H' E1 T1 O1 => ?_⟩
      obtain ⟨p, vs, rfl, z, q, rl⟩ := O1.1.lst
      exact ⟨p, rfl, ⟨vs, SqL.of q⟩, h.hK ▸ k F' H' _ [p] E1 T1 (its_lst z q rl (O1.2 p rfl rfl))⟩
    | tup ys =>
      cases ei
      refine (pi_tup (tg := tg) (ha X h).o).run pins s σ H R I ⟨F, r, s0, _, s', S0, e1, fun F' v H' E1 T1 O1 => ?_⟩
      obtain ⟨p, vs, rfl, z, q, rl⟩ := O1.1.tup
      obtain ⟨L, hw, _⟩ := its_tup (S0.pl.ext E1 T1) z q rl
      exact ⟨p, rfl, ⟨vs, h.hK ▸ tup_sq q⟩, h.hK ▸ k F' H' _ L E1 T1 hw⟩
    | dic kvs =>
      cases ei
      refine (pi_pin (tg := tg) (ha X h).o).run pins s σ H R I ⟨F, r, s0, _, s', S0, e1, fun F' v H' E1 T1 O1 => ?_⟩
      obtain ⟨p, rfl, hd⟩ := O1.1.dic
      obtain ⟨o, us, h1, h2, h3, h4, h5⟩ := hd.pin
      exact ⟨p, o, _, rfl, h2, h1, h5, k F' H' _ [p] E1 T1 (its_dic h1 h3 h4 (O1.2 p rfl rfl))⟩
    | _ => cases ei
  · obtain ⟨F, r, s0, ds, s', xs, S0, ee, ei, k⟩ := q
    obtain ⟨d, rfl, e1⟩ := evs_one ee
    cases d with
    | str t =>
      simp only [itD] at ei
      split at ei
      · rename_i hz
        cases ei
        refine (pi_str (tg := tg) (ha X h).v).run pins s σ H R I ⟨F, r, s0, _, s', S0, e1, fun F' v H' E1 T1 O1 => ⟨_, O1.top.str, k F' H' _ [] E1 T1 (its_str (szL_eq ▸ hz)) (by simp)⟩⟩
      · cases ei
    | lst ys =>
      cases ei
      refine (pi_list (tg := tg) (ha X h).v).run pins s σ H R I ⟨F, r, s0, _, s', S0, e1, fun F' v H' E1 T1 O1 => ?_⟩
      obtain ⟨p, vs, rfl, z, f, q, rl⟩ := rep_lst O1
      exact ⟨p, rfl, ⟨vs, SqL.of q⟩, h.hK ▸ k F' H' _ [p] E1 T1 (its_lst z q rl (((S0.pl.ext E1 T1).opd O1).2 p rfl rfl)) (by simpa using f)⟩
    | tup ys =>
      cases ei
      refine (pi_tup (tg := tg) (ha X h).v).run pins s σ H R I ⟨F, r, s0, _, s', S0, e1, fun F' v H' E1 T1 O1 => ?_⟩
      obtain ⟨p, vs, rfl, z, q, rl⟩ := O1.top.tup
      obtain ⟨L, hw, hf⟩ := its_tup (S0.pl.ext E1 T1) z q rl
      exact ⟨p, rfl, ⟨vs, h.hK ▸ tup_sq q⟩, h.hK ▸ k F' H' _ L E1 T1 hw hf⟩
    | dic kvs =>
      cases ei
      refine (pi_pin (tg := tg) (ha X h).v).run pins s σ H R I ⟨F, r, s0, _, s', S0, e1, fun F' v H' E1 T1 O1 => ?_⟩
      have O2 := (S0.pl.ext E1 T1).opd O1
      obtain ⟨p, rfl, hd⟩ := O2.1.dic
      obtain ⟨o, us, h1, h2, h3, h4, h5⟩ := hd.pin
      have hf : F' p := by
        simp only [Rep] at O1
        obtain ⟨a', _, _, e2, f, _⟩ := O1
        cases e2
        exact f
      exact ⟨p, o, _, rfl, h2, h1, h5, k F' H' _ [p] E1 T1 (its_dic h1 h3 h4 (O2.2 p rfl rfl)) (by simpa using hf)⟩
    | _ => cases ei
/-- numbers -/
theorem opdL_ints {F : Addr → Prop} {H : Hp} {i j : Int} {vs : List V} (h : OpdL W F H [.int i, .int j] vs) : vs = [.int i, .int j] := by
  obtain ⟨v, r, rfl, h1, v', r', rfl, h2, rfl⟩ := h
  rw [h1.1.int, h2.1.int]
theorem opdL_int {F : Addr → Prop} {H : Hp} {i : Int} {vs : List V} (h : OpdL W F H [.int i] vs) : vs = [.int i] := by
  obtain ⟨v, r, rfl, h1, rfl⟩ := h
  rw [h1.1.int]
theorem repL_opd {F : Addr → Prop} {H : Hp} {s : T} (P : Pl W F H s) : ∀ {ds : List D} {vs : List V}, RepL W F H ds vs → OpdL W F H ds vs
  | [], _, h => h
  | _ :: _, _, ⟨v, r, e, h1, h2⟩ => ⟨v, r, e, P.opd h1, repL_opd P h2⟩
theorem tooBig {j : Int} (h : j.natAbs ≤ 2 ^ 61) : -(2 ^ 62) ≤ j ∧ j < 2 ^ 62 := by omega
theorem szN {j : Int} (h : j ≤ (szL : Int)) : j.toNat ≤ sizeLine := by rw [← szL_eq]; omega
theorem sz62 {j : Int} (h : j ≤ (szL : Int)) (h' : -1000000 ≤ j) : -(2 ^ 62) ≤ j ∧ j < 2 ^ 62 := by
  have : szL = 16777216 := rfl
  omega
theorem rng1_iff {d : D} {ys : List D} (h : itD .rng [d] = some ys) : ∃ j : Int, d = .int j ∧ j ≤ (szL : Int) ∧ -1000000 ≤ j ∧ ys = rngL 0 j.toNat := by
  cases d <;> simp only [itD] at h
  all_goals try cases h
  split at h
  · rename_i hz
    cases h
    exact ⟨_, rfl, hz.1, hz.2, rfl⟩
  · cases h
theorem rng2_iff {d d' : D} {ys : List D} (h : itD .rng [d, d'] = some ys) : ∃ i j : Int, d = .int i ∧ d' = .int j ∧ j - i ≤ (szL : Int) ∧ i.natAbs ≤ 2 ^ 61 ∧ j.natAbs ≤ 2 ^ 61 ∧ ys = rngL i (j - i).toNat := by
  cases d <;> cases d' <;> simp only [itD] at h
  all_goals try cases h
  split at h
  · rename_i hz
    cases h
    exact ⟨_, _, rfl, rfl, hz.1, hz.2.1, hz.2.2, rfl⟩
  · cases h
theorem evos_two {r : Env} {s : T} {ds : List D} {s' : T} (h : evos G [a, b] r s = some (ds, s')) : ∃ d d', ds = [d, d'] := by
  rw [evos] at h
  obtain ⟨p, e1, e2⟩ := Option.bind_eq_some_iff.mp h
  obtain ⟨q, e3, e4⟩ := Option.map_eq_some_iff.mp e2
  obtain ⟨d', e5, _⟩ := evos_one (ds := q.1) (s' := q.2) e3
  cases e4
  exact ⟨p.1, d', by rw [e5]⟩
theorem evs_two {r : Env} {s : T} {ds : List D} {s' : T} (h : evs G [a, b] r s = some (ds, s')) : ∃ d d', ds = [d, d'] := by
  rw [evs] at h
  obtain ⟨p, e1, e2⟩ := Option.bind_eq_some_iff.mp h
  obtain ⟨q, e3, e4⟩ := Option.map_eq_some_iff.mp e2
  obtain ⟨d', e5, _⟩ := evs_one (ds := q.1) (s' := q.2) e3
  cases e4
  exact ⟨p.1, d', by rw [e5]⟩
theorem si_rng1 {m : Str} {p : Pos} (ha : SA S W G [x] [a]) (hm : m = "range" := by rfl) (hg : S.sc.names.lookup m = some .globalImplicit := by rfl) : SI S W G tg (.Call (.Name m p) [x] [] pos) .rng [a] := fun X h => by
  subst hm
  refine ⟨⟨fun pins s σ H R I q => ?_⟩, ⟨fun pins s σ H R I q => ?_⟩⟩
  · obtain ⟨F, r, s0, ds, s', xs, S0, ee, ei, k⟩ := q
    obtain ⟨d, rfl, e1⟩ := evos_one ee
    obtain ⟨j, rfl, h1, h2, rfl⟩ := rng1_iff ei
    exact (pi_range1 (tg := tg) (gl_of h hg) (h.bt _ (by decide +kernel)) (ha.o X h) (by rw [ha.st]; rfl)).run pins s σ H R I ⟨F, r, s0, _, s', S0, ee, fun F' vs H' E1 T1 O1 => ⟨j, opdL_int O1, (sz62 h1 h2).1, (sz62 h1 h2).2, k F' H' _ [] E1 T1 (its_rng (szN h1))⟩⟩
  · obtain ⟨F, r, s0, ds, s', xs, S0, ee, ei, k⟩ := q
    obtain ⟨d, rfl, e1⟩ := evs_one ee
    obtain ⟨j, rfl, h1, h2, rfl⟩ := rng1_iff ei
    exact (pi_range1 (tg := tg) (gl_of h hg) (h.bt _ (by decide +kernel)) (ha.v X h) (by rw [ha.st]; rfl)).run pins s σ H R I ⟨F, r, s0, _, s', S0, ee, fun F' vs H' E1 T1 O1 => ⟨j, opdL_int (repL_opd (S0.pl.ext E1 T1) O1), (sz62 h1 h2).1, (sz62 h1 h2).2, k F' H' _ [] E1 T1 (its_rng (szN h1)) (by simp)⟩⟩
theorem si_rng2 {m : Str} {p : Pos} (ha : SA S W G [x, y] [a, b]) (hm : m = "range" := by rfl) (hg : S.sc.names.lookup m = some .globalImplicit := by rfl) : SI S W G tg (.Call (.Name m p) [x, y] [] pos) .rng [a, b] := fun X h => by
  subst hm
  refine ⟨⟨fun pins s σ H R I q => ?_⟩, ⟨fun pins s σ H R I q => ?_⟩⟩
  · obtain ⟨F, r, s0, ds, s', xs, S0, ee, ei, k⟩ := q
    obtain ⟨d, d', rfl⟩ := evos_two ee
    obtain ⟨i, j, rfl, rfl, h1, h2, h3, rfl⟩ := rng2_iff ei
    exact (pi_range2 (tg := tg) (gl_of h hg) (h.bt _ (by decide +kernel)) (ha.o X h) (by rw [ha.st]; rfl) (by rw [ha.tail]; rfl)).run pins s σ H R I ⟨F, r, s0, _, s', S0, ee, fun F' vs H' E1 T1 O1 => ⟨i, j, opdL_ints O1, ⟨(tooBig h2).1, (tooBig h2).2, (tooBig h3).1, (tooBig h3).2⟩, k F' H' _ [] E1 T1 (its_rng (szN h1))⟩⟩
  · obtain ⟨F, r, s0, ds, s', xs, S0, ee, ei, k⟩ := q
    obtain ⟨d, d', rfl⟩ := evs_two ee
    obtain ⟨i, j, rfl, rfl, h1, h2, h3, rfl⟩ := rng2_iff ei
    exact (pi_range2 (tg := tg) (gl_of h hg) (h.bt _ (by decide +kernel)) (ha.v X h) (by rw [ha.st]; rfl) (by rw [ha.tail]; rfl)).run pins s σ H R I ⟨F, r, s0, _, s', S0, ee, fun F' vs H' E1 T1 O1 => ⟨i, j, opdL_ints (repL_opd (S0.pl.ext E1 T1) O1), ⟨(tooBig h2).1, (tooBig h2).2, (tooBig h3).1, (tooBig h3).2⟩, k F' H' _ [] E1 T1 (its_rng (szN h1)) (by simp)⟩⟩

theorem rng3_iff {d d' c : D} {ys : List D} (h : itD .rng [d, d', c] = some ys) : ∃ i j : Int, d = .int i ∧ d' = .int j ∧ c = .int (-1) ∧ i - j ≤ (szL : Int) ∧ i.natAbs ≤ 2 ^ 61 ∧ j.natAbs ≤ 2 ^ 61 ∧ ys = rngCL i (-1) (i - j).toNat := by
  cases d <;> cases d' <;> cases c <;> simp only [itD] at h
  all_goals try cases h
  split at h
  · rename_i hz
    cases h
    exact ⟨_, _, rfl, rfl, by rw [hz.1], hz.2.1, hz.2.2.1, hz.2.2.2, rfl⟩
  · cases h
theorem evos_three {r : Env} {s : T} {ds : List D} {s' : T} (h : evos G [a, b, c] r s = some (ds, s')) : ∃ d d' d'', ds = [d, d', d''] := by
  rw [evos] at h
  obtain ⟨p, e1, e2⟩ := Option.bind_eq_some_iff.mp h
  obtain ⟨q, e3, e4⟩ := Option.map_eq_some_iff.mp e2
  obtain ⟨d, d', e5⟩ := evos_two (ds := q.1) (s' := q.2) e3
  cases e4
  exact ⟨p.1, d, d', by rw [e5]⟩
theorem evs_three {r : Env} {s : T} {ds : List D} {s' : T} (h : evs G [a, b, c] r s = some (ds, s')) : ∃ d d' d'', ds = [d, d', d''] := by
  rw [evs] at h
  obtain ⟨p, e1, e2⟩ := Option.bind_eq_some_iff.mp h
  obtain ⟨q, e3, e4⟩ := Option.map_eq_some_iff.mp e2
  obtain ⟨d, d', e5⟩ := evs_two (ds := q.1) (s' := q.2) e3
  cases e4
  exact ⟨p.1, d, d', by rw [e5]⟩
theorem opdL_ints3 {F : Addr → Prop} {H : Hp} {i j k : Int} {vs : List V} (h : OpdL W F H [.int i, .int j, .int k] vs) : vs = [.int i, .int j, .int k] := by
  obtain ⟨v, r, rfl, h1, v', r', rfl, h2, v'', r'', rfl, h3, rfl⟩ := h
  rw [h1.1.int, h2.1.int, h3.1.int]
theorem si_rng3 {m : Str} {p : Pos} (ha : SA S W G [x, y, z] [a, b, c]) (hm : m = "range" := by rfl) (hg : S.sc.names.lookup m = some .globalImplicit := by rfl) : SI S W G tg (.Call (.Name m p) [x, y, z] [] pos) .rng [a, b, c] := fun X h => by
  subst hm
  refine ⟨⟨fun pins s σ H R I q => ?_⟩, ⟨fun pins s σ H R I q => ?_⟩⟩
  · obtain ⟨F, r, s0, ds, s', xs, S0, ee, ei, k⟩ := q
    obtain ⟨d, d', d'', rfl⟩ := evos_three ee
    obtain ⟨i, j, rfl, rfl, rfl, h1, h2, h3, rfl⟩ := rng3_iff ei
    exact (pi_range3 (tg := tg) (gl_of h hg) (h.bt _ (by decide +kernel)) (ha.o X h) (ha.head _) (ha.plain _ _)).run pins s σ H R I ⟨F, r, s0, _, s', S0, ee, fun F' vs H' E1 T1 O1 => ⟨i, j, -1, _, opdL_ints3 O1, RgC.neg (tooBig h2).1 (tooBig h2).2 (tooBig h3).1 (tooBig h3).2, k F' H' _ [] E1 T1 (its_rngC (szN h1))⟩⟩
  · obtain ⟨F, r, s0, ds, s', xs, S0, ee, ei, k⟩ := q
    obtain ⟨d, d', d'', rfl⟩ := evs_three ee
    obtain ⟨i, j, rfl, rfl, rfl, h1, h2, h3, rfl⟩ := rng3_iff ei
    exact (pi_range3 (tg := tg) (gl_of h hg) (h.bt _ (by decide +kernel)) (ha.v X h) (ha.head _) (ha.plain _ _)).run pins s σ H R I ⟨F, r, s0, _, s', S0, ee, fun F' vs H' E1 T1 O1 => ⟨i, j, -1, _, opdL_ints3 (repL_opd (S0.pl.ext E1 T1) O1), RgC.neg (tooBig h2).1 (tooBig h2).2 (tooBig h3).1 (tooBig h3).2, k F' H' _ [] E1 T1 (its_rngC (szN h1)) (by simp)⟩⟩

/-! ### targets -/
mutual
def tgV : Tg → List Nat
  | .nm i => [i]
  | .tp ts => tgVs ts
def tgVs : List Tg → List Nat
  | [] => []
  | t :: ts => tgV t ++ tgVs ts
end
/-- nothing but these slots has changed -/
def Off (σ σ' : L2.St) (is : List Nat) : Prop := σ'.length = σ.length ∧ ∀ i, i ∉ is → σ'[i]? = σ[i]?
def gG (W : Wd) (t : Tg) : TG := fun v σ H Q => ∃ F r s d r', Sim W F r s σ H ∧ Rep W F H d v ∧ bindT t d r = some r' ∧ ∀ σ', Sim W F r' s σ' H → Off σ σ' (tgV t) → Q σ' H
def gGs (W : Wd) (ts : List Tg) : TGs := fun vs σ H Q => ∃ F r s ds r', Sim W F r s σ H ∧ RepL W F H ds vs ∧ bindTs ts ds r = some r' ∧ ∀ σ', Sim W F r' s σ' H → Off σ σ' (tgVs ts) → Q σ' H
def SG (S : Sc) (x : Expr) (t : Tg) : Prop := ∀ W G X, Std S W G X → PG X x (gG W t)
structure SGs (S : Sc) (xs : List Expr) (ts : List Tg) : Prop where
  p : ∀ W G X, Std S W G X → PGs X xs (gGs W ts)
  st : ∀ env, (assignEach xs env) = xs.map fun x => (false, assign x env)
theorem PG.weak {t u : TG} (h : PG X x t) (w : ∀ v σ H Q, u v σ H Q → t v σ H Q) : PG X x u := ⟨fun pins s σ H v u Q I r q => h.run pins s σ H v u Q I r (w v σ H Q q)⟩
theorem PGs.weak {xs : List Expr} {t u : TGs} (h : PGs X xs t) (w : ∀ v σ H Q, u v σ H Q → t v σ H Q) : PGs X xs u := ⟨fun pins s σ H v u Q I r q => h.run pins s σ H v u Q I r (w v σ H Q q)⟩
theorem sg_nm (i : Nat) {n : Str} (hi : S.N[i]? = some n := by rfl) (hx : Loc S.sc n := by first | exact Or.inl rfl | exact Or.inr rfl) (hf : S.fn n = true ∨ S.sc.names.lookup n = some .local := by first | exact .inl rfl | exact .inr rfl) : SG S (.Name n pos) (.nm i) := fun W G X h => by
  have hf' : X.fn n = true ∨ X.env.scope.names.lookup n = some .local := by
    rw [h.hs]
    exact hf.imp (h.hf n) id
  refine PG.weak (pg_name (i := i) (h.hN ▸ h.nd) (by rw [h.hN]; exact hi) (by rw [h.hs]; exact hx) hf') fun v σ H Q q => ?_
  obtain ⟨F, r, s, d, r', S0, R0, eb, k⟩ := q
  rw [bindT] at eb
  cases eb
  exact k _ (S0.setv i R0) ⟨List.length_set, fun j hj => set_off (by simpa [tgV] using hj)⟩
theorem sgs_nil : SGs S [] [] := ⟨fun W G X h => PGs.weak pgs_nil fun v σ H Q q => by
  obtain ⟨F, r, s, d, r', S0, R0, eb, k⟩ := q
  cases d with
  | nil =>
    rw [bindTs] at eb
    cases eb
    exact ⟨R0, k σ S0 ⟨rfl, fun _ _ => rfl⟩⟩
  | cons d ds => rw [bindTs] at eb <;> simp_all, fun _ => rfl⟩
theorem sgs_cons {xs : List Expr} {t : Tg} {ts : List Tg} (h1 : SG S x t) (h2 : SGs S xs ts) (hs : ∀ env, assignEach (x :: xs) env = (false, assign x env) :: assignEach xs env := by intro _; rfl) : SGs S (x :: xs) (t :: ts) := by
  refine ⟨fun W G X h => PGs.weak (pgs_cons (h1 W G X h) (h2.p W G X h) (by rw [hs]; rfl)) fun vs σ H Q q => ?_, fun env => by rw [hs, h2.st]; rfl⟩
  obtain ⟨F, r, s, ds, r', S0, R0, eb, k⟩ := q
  cases ds with
  | nil => rw [bindTs] at eb <;> simp_all
  | cons d ds =>
    rw [bindTs] at eb
    obtain ⟨r1, e1, e2⟩ := Option.bind_eq_some_iff.mp eb
    obtain ⟨v, vr, rfl, R1, R2⟩ := R0
    refine ⟨v, vr, rfl, F, r, s, d, r1, S0, R1, e1, fun σ1 S1 o1 => ⟨F, r1, s, ds, r', S1, R2, e2, fun σ2 S2 o2 => k σ2 S2 ⟨o2.1.trans o1.1, fun j hj => ?_⟩⟩⟩
    simp only [tgVs, List.mem_append, not_or] at hj
    rw [o2.2 j hj.2, o1.2 j hj.1]
theorem findIdx_plain {α β : Type} {f : α → β} {xs : List α} : (xs.map fun x => (false, f x)).findIdx? (·.1) = none := by
  rw [List.findIdx?_eq_none_iff]
  simp
theorem sg_tp {xs : List Expr} {ts : List Tg} {k0 : Nat} (h1 : SGs S xs ts) (hl : xs.length = ts.length := by rfl) : SG S (.Tuple xs k0 pos) (.tp ts) := fun W G X h => by
  refine PG.weak (pg_tup (n := xs.length) h.calm (h1.p W G X h) (by rw [h1.st, List.length_map]) (by rw [h1.st]; exact findIdx_plain)) fun v σ H Q q => ?_
  obtain ⟨F, r, s, d, r', S0, R0, eb, k⟩ := q
  cases d with
  | tup ds =>
    rw [bindT] at eb
    obtain ⟨p, vs, rfl, z, q, rl⟩ := R0.top.tup
    have len : ∀ (ts : List Tg) (ds : List D) (r r' : Env), bindTs ts ds r = some r' → ds.length = ts.length := by
      intro ts
      induction ts with
      | nil =>
        intro ds r r' e
        cases ds with
        | nil => rfl
        | cons d ds => rw [bindTs] at e <;> simp_all
      | cons t ts ih =>
        intro ds r r' e
        cases ds with
        | nil => rw [bindTs] at e <;> simp_all
        | cons d ds =>
          rw [bindTs] at e
          obtain ⟨r1, e1, e2⟩ := Option.bind_eq_some_iff.mp e
          rw [List.length_cons, List.length_cons, ih ds r1 r' e2]
    exact ⟨p, vs, rfl, h.hK ▸ tup_sq q, by rw [rl.length, len ts ds r r' eb, hl], F, r, s, ds, r', S0, rl, eb, fun σ' S' o => k σ' S' (by rw [tgV]; exact o)⟩
  | _ => rw [bindT] at eb <;> simp_all
end
end Ip

/-! IpJ: zip, enumerate, list comprehensions. -/
namespace Ip
open PySem PySem.Spec PyProof.Rows L2 RZ
section
variable {S : Sc} {W : Wd} {G : Gl} {X : Cx} {x y z tg : Expr} {a b c e : E} {pos : Pos}
theorem two_ok {u v : V} : [u, v].length ≤ sizeLine := by rw [← szL_eq]; show 2 ≤ szL; decide
theorem its_pair {F : Addr → Prop} {H : Hp} {J : It} {n : Nat} {ds : List D} {L : List Addr} {f g : Nat → Option V} (ne : ∀ p ∈ L, p ≠ W.ba ∧ p ≠ W.ca ∧ H p ≠ none) (hz : n ≤ sizeLine) (hn : ds.length = n)
    (hr : ∀ (i : Nat) (d : D) (u v : V), ds[i]? = some d → f i = some u → g i = some v → ∃ p q, d = .tup [p, q] ∧ Rep W F H p u ∧ Rep W F H q v) (w : Walk J n (fun H2 => ∀ p ∈ L, H2 p = H p) (YPair f g)) : Wlk W F H J ds L := by
  refine ⟨ne, by rw [hn]; exact hz, ?_⟩
  rw [hn]
  refine w.mono (fun _ h => h) fun i H1 x H2 hi hg y d hd F2 hF hH fk => ?_
  obtain ⟨t, u, v, rfl, ht, rfl, e1, e2⟩ := y
  obtain ⟨p, q, rfl, r1, r2⟩ := hr i d u v hd e1 e2
  refine .inr ⟨t, _, rfl, ht, rfl, [u, v], two_ok, upd_same, ?_⟩
  exact RepL.laid fk ht ⟨u, [v], rfl, Rep.mono hF hH p u r1, v, [], rfl, Rep.mono hF hH q v r2, rfl⟩
theorem zip_get {ds es : List D} {vs us : List V} {F : Addr → Prop} {H : Hp} (R1 : RepL W F H ds vs) (R2 : RepL W F H es us) (i : Nat) (d : D) (u v : V) (h : (List.zipWith (fun x y => D.tup [x, y]) ds es)[i]? = some d) (h1 : vs[i]? = some u) (h2 : us[i]? = some v) : ∃ p q, d = .tup [p, q] ∧ Rep W F H p u ∧ Rep W F H q v := by
  rw [List.getElem?_zipWith] at h
  cases e1 : ds[i]? with
  | none => rw [e1] at h; cases h
  | some p =>
    cases e2 : es[i]? with
    | none => rw [e1, e2] at h; cases h
    | some q =>
      rw [e1, e2] at h
      cases h
      obtain ⟨v1, a1, b1⟩ := R1.get e1
      obtain ⟨v2, a2, b2⟩ := R2.get e2
      rw [h1] at a1
      rw [h2] at a2
      cases a1
      cases a2
      exact ⟨p, q, rfl, b1, b2⟩
theorem walk_zipT {K : PySem.W.Frag} {a b : Addr} {xs ys : List V} {n : Nat} (hn : n = min xs.length ys.length) : Walk (ItzT K a b) n (fun H => SqT K H a xs ∧ SqT K H b ys) (YPair (fun i => xs[i]?) (fun i => ys[i]?)) := by
  subst hn
  refine ⟨fun i _ hi q => ?_, fun _ q => ⟨xs, ys, q.1, q.2, by omega⟩, fun i H v H' _ q y => ?_⟩
  · have h1 : i < xs.length := by omega
    have h2 : i < ys.length := by omega
    exact ⟨xs, ys, xs[i], ys[i], q.1, q.2, by simp [h1], by simp [h2]⟩
  · obtain ⟨T, x, z, h1, h2, h3, h4, h5⟩ := y
    exact ⟨T, x, z, h1, h2, h3, h4 xs q.1, h5 ys q.2⟩
theorem zip_iff {d d' : D} {ys : List D} (h : itD .zip [d, d'] = some ys) : ∃ us vs, ((d = .lst us ∧ d' = .lst vs) ∨ (d = .tup us ∧ d' = .tup vs)) ∧ ys = List.zipWith (fun x y => .tup [x, y]) us vs := by
  cases d <;> cases d' <;> simp only [itD] at h
  all_goals try cases h
  · exact ⟨_, _, .inr ⟨rfl, rfl⟩, rfl⟩
  · exact ⟨_, _, .inl ⟨rfl, rfl⟩, rfl⟩
theorem its_zip {F : Addr → Prop} {H : Hp} {s : T} {d d' : D} {us vs : List D} {xs : List V} (P : Pl W F H s) (hd : (d = .lst us ∧ d' = .lst vs) ∨ (d = .tup us ∧ d' = .tup vs)) (h : OpdL W F H [d, d'] xs) :
    ∃ (p q : Addr) (as bs : List V) (L : List Addr), xs = [.ref p, .ref q] ∧ ((SqL W.K H p as ∧ SqL W.K H q bs ∧ Wlk W F H (Itz W.K p q) (List.zipWith (fun x y => .tup [x, y]) us vs) L) ∨ (SqT W.K H p as ∧ SqT W.K H q bs ∧ Wlk W F H (ItzT W.K p q) (List.zipWith (fun x y => .tup [x, y]) us vs) L)) ∧
      ((∀ ds, RepL W F H ds xs → ds = [d, d'] → ∀ b ∈ L, F b) ) := by
  obtain ⟨v, r, rfl, h1, v', r', rfl, h2, rfl⟩ := h
  rcases hd with ⟨rfl, rfl⟩ | ⟨rfl, rfl⟩
  · obtain ⟨p, as, rfl, z1, q1, r1⟩ := h1.1.lst
    obtain ⟨q, bs, rfl, z2, q2, r2⟩ := h2.1.lst
    refine ⟨p, q, as, bs, [p, q], rfl, .inl ⟨SqL.of q1, SqL.of q2, ?_⟩, ?_⟩
    · refine its_pair (n := min as.length bs.length) ?_ (by omega) (by rw [List.length_zipWith, r1.length, r2.length]) (fun i d u v => zip_get r1 r2 i d u v) ((walk_zip rfl).mono (fun H2 hh => ⟨SqL.of ((hh p (by simp)).trans q1), SqL.of ((hh q (by simp)).trans q2)⟩) fun _ _ _ _ _ _ y => y)
      intro b hb
      simp only [List.mem_cons, List.not_mem_nil, or_false] at hb
      rcases hb with rfl | rfl
      · exact ⟨(h1.2 _ rfl rfl).1, (h1.2 _ rfl rfl).2, by rw [q1]; simp⟩
      · exact ⟨(h2.2 _ rfl rfl).1, (h2.2 _ rfl rfl).2, by rw [q2]; simp⟩
    · rintro ds R rfl b hb
      obtain ⟨v, r, e, g1, v', r', e', g2, _⟩ := R
      cases e
      cases e'
      obtain ⟨_, _, e1, _, f1, _⟩ := rep_lst g1
      obtain ⟨_, _, e2, _, f2, _⟩ := rep_lst g2
      cases e1
      cases e2
      simp only [List.mem_cons, List.not_mem_nil, or_false] at hb
      rcases hb with rfl | rfl
      · exact f1
      · exact f2
  · obtain ⟨p, as, rfl, z1, q1, r1⟩ := h1.1.tup
    obtain ⟨q, bs, rfl, z2, q2, r2⟩ := h2.1.tup
    obtain ⟨L1, l1, s1⟩ := tup_L P q1
    obtain ⟨L2, l2, s2⟩ := tup_L P q2
    refine ⟨p, q, as, bs, L1 ++ L2, rfl, .inr ⟨tup_sq q1, tup_sq q2, ?_⟩, ?_⟩
    · refine its_pair (n := min as.length bs.length) ?_ (by omega) (by rw [List.length_zipWith, r1.length, r2.length]) (fun i d u v => zip_get r1 r2 i d u v) ((walk_zipT rfl).mono (fun H2 hh => ⟨s1 H2 fun b hb => hh b (List.mem_append_left _ hb), s2 H2 fun b hb => hh b (List.mem_append_right _ hb)⟩) fun _ _ _ _ _ _ y => y)
      intro b hb
      rcases List.mem_append.mp hb with hb | hb
      · exact (l1 b hb).2
      · exact (l2 b hb).2
    · rintro ds R rfl b hb
      rcases List.mem_append.mp hb with hb | hb
      · exact (l1 b hb).1
      · exact (l2 b hb).1
theorem si_zip {m : Str} {p tpos : Pos} {elts : List Expr} {kk : Nat} (ha : SA S W G [x, y] [a, b]) (hm : m = "zip" := by rfl) (hg : S.sc.names.lookup m = some .globalImplicit := by rfl) : SI S W G (.Tuple elts kk tpos) (.Call (.Name m p) [x, y] [] pos) .zip [a, b] := fun X h => by
  subst hm
  refine ⟨⟨fun pins s σ H R I q => ?_⟩, ⟨fun pins s σ H R I q => ?_⟩⟩
  · obtain ⟨F, r, s0, ds, s', xs, S0, ee, ei, k⟩ := q
    obtain ⟨d, d', rfl⟩ := evos_two ee
    obtain ⟨us, vs, hd, rfl⟩ := zip_iff ei
    refine (pi_zipA (gl_of h hg) (h.bt _ (by decide +kernel)) (ha.o X h) (ha.head _) (ha.plain _ _)).run pins s σ H R I ⟨F, r, s0, _, s', S0, ee, fun F' ws H' E1 T1 O1 => ?_⟩
    obtain ⟨p, q, as, bs, L, rfl, hh, _⟩ := its_zip (S0.pl.ext E1 T1) hd O1
    rw [h.hK]
    rcases hh with ⟨h1, h2, h3⟩ | ⟨h1, h2, h3⟩
    · exact ⟨p, q, as, bs, rfl, .inl ⟨h1, h2, k F' H' _ L E1 T1 h3⟩⟩
    · exact ⟨p, q, as, bs, rfl, .inr ⟨h1, h2, k F' H' _ L E1 T1 h3⟩⟩
  · obtain ⟨F, r, s0, ds, s', xs, S0, ee, ei, k⟩ := q
    obtain ⟨d, d', rfl⟩ := evs_two ee
    obtain ⟨us, vs, hd, rfl⟩ := zip_iff ei
    refine (pi_zipA (gl_of h hg) (h.bt _ (by decide +kernel)) (ha.v X h) (ha.head _) (ha.plain _ _)).run pins s σ H R I ⟨F, r, s0, _, s', S0, ee, fun F' ws H' E1 T1 O1 => ?_⟩
    obtain ⟨p, q, as, bs, L, rfl, hh, hf⟩ := its_zip (S0.pl.ext E1 T1) hd (repL_opd (S0.pl.ext E1 T1) O1)
    have hf := hf _ O1 rfl
    rw [h.hK]
    rcases hh with ⟨h1, h2, h3⟩ | ⟨h1, h2, h3⟩
    · exact ⟨p, q, as, bs, rfl, .inl ⟨h1, h2, k F' H' _ L E1 T1 h3 hf⟩⟩
    · exact ⟨p, q, as, bs, rfl, .inr ⟨h1, h2, k F' H' _ L E1 T1 h3 hf⟩⟩
/-! enumerate over a tuple -/
set_option maxHeartbeats 1000000 in
theorem meets_enum1 {v : Value} {o : Obj} {H : Heap → Prop} (B : Begins v o H) :
    PySem.Meets (Builtin.«enumerate.__new__» ⟨[.type "enumerate", v], []⟩) (fun _ R s => H s.heap ∧
      R (.ok (.ret (.ref (s.heap.push o).objs.size))) { s with heap := (s.heap.push o).push { cls := .type "enumerate", data := .fields #[.none, .bool false, .ref s.heap.objs.size, rawInt 0, .none, .none] } }) :=
  .of_wp fun prog w A R s h => by
    obtain ⟨hp, g, d, tk, os⟩ := s
    obtain ⟨h1, h⟩ := h
    have hsub := sub_enumerate
    have q1 : ∀ {A' : Around} {E : Value → Shared → Prop} {Q : Value → Shared → Prop}, Q (.ref hp.objs.size) ⟨hp.push o, g, d, tk, os⟩ → wpAny (model prog w) A' (pyIter v) Q E ⟨hp, g, d, tk, os⟩ :=
      fun q => B.iter prog w _ _ ⟨hp, g, d, tk, os⟩ _ h1 q
    wp_walk using q1
    refine wpAny_stack_any fun st => wpAny_pure ?_
    split
    · rename_i c _ _ _ _ _
      cases (c == Value.type "enumerate")
      · wp_walk using q1
        exact ⟨_, rfl, h⟩
      · wp_walk using q1
        exact ⟨_, rfl, h⟩
    · wp_walk using q1
      exact ⟨_, rfl, h⟩
theorem call_enum1 {prog : Program} {w : World} {A : Around} {E : Value → Shared → Prop} {s : Shared} {v : Value} {o : Obj} {H : Heap → Prop} {Q : Value → Shared → Prop} (B : Begins v o H) (h1 : H s.heap)
    (h : ∀ h', IsEnum h' (s.heap.objs.size + 1) s.heap.objs.size 0 .none → h'.get? s.heap.objs.size = some o → (∀ b o, s.heap.get? b = some o → h'.get? b = some o) → Q (.ref (s.heap.objs.size + 1)) { s with heap := h' }) :
    wpAny (model prog w) A (call (.type "enumerate") [v]) Q E s := by
  refine callType_new PySem.F.called_enumerate (by decide) (PySem.F.typeCall_enumerate_1 _) (PySem.F.newCall_enumerate_1 _) (fun obj => PySem.F.args_object_init_2 obj _) PySem.F.entry_enumerate_new
    (meets_enum1 B) ⟨h1, ?_⟩
  have hz : (s.heap.push o).objs.size = s.heap.objs.size + 1 := Heap.size_push ..
  show _ ∧ _
  rw [hz]
  have he : IsEnum ((s.heap.push o).push { cls := .type "enumerate", data := .fields #[.none, .bool false, .ref s.heap.objs.size, rawInt 0, .none, .none] }) (s.heap.objs.size + 1) s.heap.objs.size 0 .none := by
    have := Heap.get?_push_size (s.heap.push o) (o := { cls := .type "enumerate", data := .fields #[.none, .bool false, .ref s.heap.objs.size, rawInt 0, .none, .none] }) rfl
    rw [hz] at this
    exact this
  exact ⟨⟨_, he, rfl⟩, h _ he (Heap.get?_push_of_some _ (Heap.get?_push_size _ B.free)) fun b o x => Heap.get?_push_of_some _ (Heap.get?_push_of_some _ x)⟩
theorem pyNext_enumT_end {prog : Program} {w : World} {A : Around} {E : Value → Shared → Prop} {s : Shared} {e it l : Addr} {i : Nat} {items : Array Value} {old : Value} {Q : Option Value → Shared → Prop} (hh : A.handled = none)
    (he : IsEnum s.heap e it i old) (hit : s.heap.IsTupleIter it l i) (hl : s.heap.IsTuple l items) (hx : items[i]? = none)
    (hQ : ∀ h', Heap.ExtBut it s.heap h' → Q none { s with heap := h' }) : wpAny (model prog w) A (pyNext (.ref e)) Q E s := by
  have hT : s.TypeIs (.ref e) "enumerate" := ⟨_, he, rfl⟩
  unfold pyNext
  refine wpAny_bind (wpAny_attempt (wpAny_callSpecial?_slot (name := Str.ofString "__next__") hT PySem.F.slot_enumerate_next
    (wpAny_call_entry PySem.F.slot_enumerate_next hT PySem.F.entry_enumerate_next ?_ (PySem.F.args_enumerate_next_1 _))))
  show wpAny _ _ (field (.ref e) 2 >>= _) _ _ _
  refine wpAny_bind (wpAny_field he rfl (x := .ref it) rfl ?_)
  refine wpAny_bind (wpAny_nextOf_tuple_end hh hit hl hx fun h' x he' hx' => ?_)
  obtain ⟨o, ho, hc⟩ := hx'
  refine wpAny_bind (wpAny_isInstance (T := "StopIteration") (b := true) ⟨o, ho, hc⟩ isSubtype_stop ?_)
  exact wpAny_pure (hQ _ he')
def IteT (K : PySem.W.Frag) (a : Addr) : It :=
  ⟨fun i H => ∃ (xs : List V) (x : V), SqT K H a xs ∧ xs[i]? = some x, fun i H v H' => ∃ T x, v = .ref T ∧ H T = none ∧ H' = upd H T (.tup [.int (i : Nat), x]) ∧ ∀ xs, SqT K H a xs → xs[i]? = some x, fun i H => ∃ xs : List V, SqT K H a xs ∧ xs.length ≤ i⟩
theorem turn_enumT {P : Program} {w : World} {K : PySem.W.Frag} {elts : List Expr} {kk : Nat} {tpos : Pos} (a e it : Addr) (hai : a ≠ it) (hae : a ≠ e) :
    Turn P w K (.Tuple elts kk tpos) (IteT K a) [e, it] e (fun i h => (∃ old, IsEnum h e it ((i : Nat) : Int) old) ∧ h.IsTupleIter it a i ∧ e ≠ it) where
  mem := by simp
  obj := fun i h st b hb => by
    obtain ⟨⟨old, he⟩, ⟨o, ho, hc, hd⟩, _⟩ := st
    have e' : b = e ∨ b = it := by simpa using hb
    rcases e' with z | z
    · rw [z]; exact ⟨_, he, fun v q => nomatch q⟩
    · rw [z]; exact ⟨o, ho, fun v q => by rw [hd] at q; cases q⟩
  keep := fun i h h' st k => let ⟨⟨old, he⟩, hi, hne⟩ := st; ⟨⟨old, k e (by simp) _ he⟩, hi.at fun o q => k it (by simp) o q, hne⟩
  item := by
    intro X hP hw hK hc i pins s σ H E I hf st hg
    subst hP hw hK
    obtain ⟨⟨old, he⟩, hit, hne⟩ := st
    obtain ⟨xs, x, hq, hx⟩ := hg
    obtain ⟨its, rv, p, hz⟩ := I.tuple hq
    obtain ⟨u, hu, ru⟩ := rv.get hx
    have hel : e < s.heap.objs.size := Heap.lt_size he
    have hil : it < s.heap.objs.size := by obtain ⟨_, q, _⟩ := hit; exact Heap.lt_size q
    have hlt : i < its.toArray.size := by
      have := (List.getElem?_eq_some_iff.mp hu).1
      simpa using this
    refine wpAny_pyNext_enum_itemD (Draws.tuple (A := X.A.in1) (by exact I.ok.hd hc) it a hai its.toArray) he ⟨hit, show s.heap.IsTuple a its.toArray from p⟩ hlt hne (by
      simp only [List.mem_cons, List.not_mem_nil, or_false, not_or]
      exact ⟨hne, fun z => hae z.symm⟩) fun y h' tk hy ho hst hT hsz hk => ?_
    have hyu : y = u := by
      have hu' : its.toArray[i]? = some u := by simpa using hu
      rw [hu'] at hy
      exact (Option.some.inj hy).symm
    subst hyu
    refine ⟨_, rfl, wpAny_letOwnedTupleGo_enum (s := { s with heap := h', toks := tk + 1 }) ho fun h'' he' sb => ?_⟩
    have hT2 : h''.get? s.heap.objs.size = some { cls := .type "tuple", data := .seq #[.int i tk, y] } := (sb.2 _ (Nat.ne_of_gt hel)).trans hT
    have new : ObjOk X.prog X.w (upd H s.heap.objs.size (.tup [.int (i : Nat), x])) h'' s.heap.objs.size (.tup [.int (i : Nat), x]) :=
      ⟨by show 2 ≤ sizeLine; decide, [.int i tk, y], .cons ⟨_, rfl⟩ (.cons ru .nil), ⟨_, hT2, rfl, _, rfl⟩⟩
    have I1 : Inv X pins σ (upd H s.heap.objs.size (.tup [.int (i : Nat), x])) { s with heap := h'', toks := tk + 1 } :=
      I.turnedNew (ch := [e, it]) (fun b ob hb q => (sb.2 b (fun z => hb (by simp [z]))).trans (hk b ob (fun z => hb (by simp [z])) (fun z => hb (by simp [z])) q)) hf (Nat.le_refl _) new
    refine ⟨.ref s.heap.objs.size, _, I1, rfl, ⟨_, x, rfl, I.hok.fresh (Nat.le_refl _), rfl, fun ys hy => by rw [I.tuple_inj hy hq]; exact hx⟩, ⟨⟨y, ?_⟩, hst.1.at fun o q => (sb.2 it (Ne.symm hne)).trans q, hne⟩, fun b hb => ?_⟩
    · have e1 : ((i + 1 : Nat) : Int) = (i : Int) + 1 := by omega
      rw [e1]; exact he'
    · have hb' : b < s.heap.objs.size := by
        have e' : b = e ∨ b = it := by simpa using hb
        rcases e' with z | z
        · rw [z]; exact hel
        · rw [z]; exact hil
      rw [upd_ne (Nat.ne_of_lt hb')]
      exact (hf b hb).1
  done := by
    intro X hP hw hK hc i pins s σ H E I hf st hg
    subst hP hw hK
    obtain ⟨⟨old, he⟩, hit, hne⟩ := st
    obtain ⟨xs, hq, hx⟩ := hg
    obtain ⟨its, rv, p, hz⟩ := I.tuple hq
    obtain ⟨f0, f1, f2, f3, f4, f5⟩ := hf it (by simp)
    have hl := rv.length
    exact pyNext_enumT_end (I.ok.hd hc) he hit (show s.heap.IsTuple a its.toArray from p) (by simp; omega) fun h' eb => ⟨rfl, I.turned (t' := s.toks) (fun b o hb q => eb b o hb q) f0 f1 f3 f4 f5⟩
  self := fun A i s Q E st h => let ⟨⟨_, he⟩, _⟩ := st; wpAny_pyIter_enum he h
def iEnumT (K : PySem.W.Frag) (ta : TA) : TI := fun σ H R => ta σ H fun vs H1 => ∃ a xs, vs = [.ref a] ∧ SqT K H1 a xs ∧ R (IteT K a) H1
theorem pi_enumT {X : Cx} {e : Expr} {ta : TA} {p pos tpos : Pos} {elts : List Expr} {kk : Nat} (hg : L2.Gl X "enumerate") (hm : X.mg "enumerate" = none) (ha : PA X [e] ta) (hs : starEach [e] X.env = [(false, eval e X.env)]) :
    PI X (.Tuple elts kk tpos) (.Call (.Name "enumerate" p) [e] [] pos) (iEnumT X.K ta) := by
  refine ⟨fun pins s σ H R I h => ?_⟩
  refine Call_ (ld_blt I hg hm boot_enumerate (PyProof.Rows.callWith_type1 (thn (ha.run pos pins s σ H _ I h) fun us s1 ⟨vs, H1, I1, r1, q1⟩ => ?_) hs rfl))
  obtain ⟨a, xs, ex, hq, q⟩ := q1
  subst ex
  cases r1 with
  | cons r rr =>
    cases rr
    cases r
    obtain ⟨its, rv, p', hz⟩ := I1.tuple hq
    have hal : a < s1.heap.objs.size := by obtain ⟨o, e, _⟩ := p'; exact Heap.lt_size e
    refine call_enum1 (begins_tuple a its.toArray) (show s1.heap.IsTuple a its.toArray from p') fun h' he hit hk => wpAny_pyIter_enum he ?_
    have I2 : Inv X pins σ H1 { s1 with heap := h' } := I1.kept (t' := s1.toks) hk
    refine ⟨s1.heap.objs.size + 1, [s1.heap.objs.size + 1, s1.heap.objs.size], _, _, H1, rfl, I2, turn_enumT a (s1.heap.objs.size + 1) s1.heap.objs.size (Nat.ne_of_lt hal) (Nat.ne_of_lt (Nat.lt_succ_of_lt hal)), ⟨⟨.none, he⟩, ⟨_, hit, rfl, rfl⟩, Nat.succ_ne_self _⟩, fun b hb => ?_, q⟩
    have e' : b = s1.heap.objs.size + 1 ∨ b = s1.heap.objs.size := by simpa using hb
    have hle : s1.heap.objs.size ≤ b := by
      rcases e' with z | z
      · rw [z]; exact Nat.le_add_right _ _
      · rw [z]; exact Nat.le_refl _
    exact I1.fpOk hle (I1.hok.fresh hle)
theorem walk_enumT {K : PySem.W.Frag} {a : Addr} {xs : List V} : Walk (IteT K a) xs.length (fun H => SqT K H a xs) (YPair (fun i => some (.int (i : Nat))) (fun i => xs[i]?)) := by
  refine ⟨fun i _ hi q => ⟨xs, xs[i], q, by simp [hi]⟩, fun _ q => ⟨xs, q, Nat.le_refl _⟩, fun i H v H' _ q y => ?_⟩
  obtain ⟨T, x, h1, h2, h3, h4⟩ := y
  exact ⟨T, .int (i : Nat), x, h1, h2, h3, rfl, h4 xs q⟩
theorem enum_iff {d : D} {ys : List D} (h : itD .enum [d] = some ys) : ∃ us, (d = .lst us ∨ d = .tup us) ∧ ys = us.zipIdx.map fun p => .tup [.int (p.2 : Nat), p.1] := by
  cases d <;> simp only [itD] at h
  all_goals try cases h
  · exact ⟨_, .inr rfl, rfl⟩
  · exact ⟨_, .inl rfl, rfl⟩
theorem enum_get {F : Addr → Prop} {H : Hp} {us : List D} {vs : List V} (R : RepL W F H us vs) (i : Nat) (d : D) (u v : V) (hd : (us.zipIdx.map fun p => D.tup [.int (p.2 : Nat), p.1])[i]? = some d) (hu : some (V.int (i : Nat)) = some u) (hv : vs[i]? = some v) : ∃ p q, d = .tup [p, q] ∧ Rep W F H p u ∧ Rep W F H q v := by
  cases hu
  rw [List.getElem?_map, List.getElem?_zipIdx] at hd
  cases e : us[i]? with
  | none => rw [e] at hd; cases hd
  | some d0 =>
    rw [e] at hd
    cases hd
    obtain ⟨v1, a1, b1⟩ := R.get e
    rw [hv] at a1
    cases a1
    refine ⟨_, _, rfl, ?_, b1⟩
    simp only [Rep, Nat.zero_add]
theorem its_enum {F : Addr → Prop} {H : Hp} {p : Addr} {us : List D} {vs : List V} (hz : vs.length ≤ sizeLine) (q : H p = some (.lst vs)) (R : RepL W F H us vs) (n : p ≠ W.ba ∧ p ≠ W.ca) : Wlk W F H (Ite W.K p) (us.zipIdx.map fun p => .tup [.int (p.2 : Nat), p.1]) [p] := by
  refine its_pair (n := vs.length) ?_ hz (by rw [List.length_map, List.length_zipIdx, R.length]) (fun i d u v h1 h2 h3 => enum_get R i d u v h1 h2 h3) ((walk_enum (K := W.K) (a := p) (xs := vs)).mono (fun H2 hh => SqL.of ((hh p (by simp)).trans q)) fun _ _ _ _ _ _ y => y)
  intro b hb
  simp only [List.mem_singleton] at hb
  subst hb
  exact ⟨n.1, n.2, by rw [q]; simp⟩
theorem its_enumT {F : Addr → Prop} {H : Hp} {s : T} {p : Addr} {us : List D} {vs : List V} (P : Pl W F H s) (hz : vs.length ≤ sizeLine) (q : (F p ∧ H p = some (.tup vs)) ∨ KTup W.K p vs) (R : RepL W F H us vs) : ∃ L, Wlk W F H (IteT W.K p) (us.zipIdx.map fun p => .tup [.int (p.2 : Nat), p.1]) L ∧ ∀ b ∈ L, F b := by
  obtain ⟨L, hL, hs⟩ := tup_L P q
  exact ⟨L, its_pair (n := vs.length) (fun b hb => (hL b hb).2) hz (by rw [List.length_map, List.length_zipIdx, R.length]) (fun i d u v h1 h2 h3 => enum_get R i d u v h1 h2 h3) ((walk_enumT (K := W.K) (a := p) (xs := vs)).mono (fun H2 h => hs H2 h) fun _ _ _ _ _ _ y => y), fun b hb => (hL b hb).1⟩
theorem si_enum {m : Str} {p tpos : Pos} {elts : List Expr} {kk : Nat} (ha : SA S W G [x] [a]) (hm : m = "enumerate" := by rfl) (hg : S.sc.names.lookup m = some .globalImplicit := by rfl) : SI S W G (.Tuple elts kk tpos) (.Call (.Name m p) [x] [] pos) .enum [a] := fun X h => by
  subst hm
  refine ⟨⟨fun pins s σ H R I q => ?_⟩, ⟨fun pins s σ H R I q => ?_⟩⟩
  · obtain ⟨F, r, s0, ds, s', xs, S0, ee, ei, k⟩ := q
    obtain ⟨d, rfl, e1⟩ := evos_one ee
    obtain ⟨us, hd, rfl⟩ := enum_iff ei
    rcases hd with rfl | rfl
    · refine (pi_enum (gl_of h hg) (h.bt _ (by decide +kernel)) (ha.o X h) (by rw [ha.st]; rfl)).run pins s σ H R I ⟨F, r, s0, _, s', S0, ee, fun F' ws H' E1 T1 O1 => ?_⟩
      obtain ⟨v, r', rfl, h1, rfl⟩ := O1
      obtain ⟨p, as, rfl, z1, q1, r1⟩ := h1.1.lst
      rw [h.hK]
      exact ⟨p, as, rfl, SqL.of q1, k F' H' _ [p] E1 T1 (its_enum z1 q1 r1 (h1.2 _ rfl rfl))⟩
    · refine (pi_enumT (gl_of h hg) (h.bt _ (by decide +kernel)) (ha.o X h) (by rw [ha.st]; rfl)).run pins s σ H R I ⟨F, r, s0, _, s', S0, ee, fun F' ws H' E1 T1 O1 => ?_⟩
      obtain ⟨v, r', rfl, h1, rfl⟩ := O1
      obtain ⟨p, as, rfl, z1, q1, r1⟩ := h1.1.tup
      obtain ⟨L, hw, _⟩ := its_enumT (S0.pl.ext E1 T1) z1 q1 r1
      rw [h.hK]
      exact ⟨p, as, rfl, tup_sq q1, k F' H' _ L E1 T1 hw⟩
  · obtain ⟨F, r, s0, ds, s', xs, S0, ee, ei, k⟩ := q
    obtain ⟨d, rfl, e1⟩ := evs_one ee
    obtain ⟨us, hd, rfl⟩ := enum_iff ei
    rcases hd with rfl | rfl
    · refine (pi_enum (gl_of h hg) (h.bt _ (by decide +kernel)) (ha.v X h) (by rw [ha.st]; rfl)).run pins s σ H R I ⟨F, r, s0, _, s', S0, ee, fun F' ws H' E1 T1 O1 => ?_⟩
      obtain ⟨v, r', rfl, h1, rfl⟩ := O1
      obtain ⟨p, as, rfl, z1, f1, q1, r1⟩ := rep_lst h1
      rw [h.hK]
      exact ⟨p, as, rfl, SqL.of q1, k F' H' _ [p] E1 T1 (its_enum z1 q1 r1 (((S0.pl.ext E1 T1).opd h1).2 _ rfl rfl)) (by simpa using f1)⟩
    · refine (pi_enumT (gl_of h hg) (h.bt _ (by decide +kernel)) (ha.v X h) (by rw [ha.st]; rfl)).run pins s σ H R I ⟨F, r, s0, _, s', S0, ee, fun F' ws H' E1 T1 O1 => ?_⟩
      obtain ⟨v, r', rfl, h1, rfl⟩ := O1
      obtain ⟨p, as, rfl, z1, q1, r1⟩ := h1.top.tup
      obtain ⟨L, hw, hf⟩ := its_enumT (S0.pl.ext E1 T1) z1 q1 r1
      rw [h.hK]
      exact ⟨p, as, rfl, tup_sq q1, k F' H' _ L E1 T1 hw hf⟩

/-! ### list comprehensions -/
def gTs (W : Wd) (G : Gl) (es : List E) : TT := fun σ H Q => ∃ F r s b s', Sim W F r s σ H ∧ evts G es r s = some (b, s') ∧ ∀ F' H', Ext W F H F' H' → Tp W s' H' → Q b H'
def ST (S : Sc) (W : Wd) (G : Gl) (xs : List Expr) (es : List E) : Prop := ∀ X, Std S W G X → PTs X xs (gTs W G es)
theorem PTs.weak {xs : List Expr} {t u : TT} (h : PTs X xs t) (w : ∀ σ H Q, u σ H Q → t σ H Q) : PTs X xs u := ⟨fun pins s σ H Q I q => h.run pins s σ H Q I (w σ H Q q)⟩
theorem st_nil : ST S W G [] [] := fun X h => PTs.weak pts_nil fun σ H Q q => by
  obtain ⟨F, r, s, d, s', S0, ee, k⟩ := q
  rw [evts] at ee
  cases ee
  exact k F H (Ext.refl S0.f2) S0.tape
theorem st_one (h1 : SE S W G x a) : ST S W G [x] [a] := fun X h => PTs.weak (pts_one (h1 X h).t) fun σ H Q q => by
  obtain ⟨F, r, s, d, s', S0, ee, k⟩ := q
  rw [evts] at ee
  obtain ⟨⟨p, s1⟩, e1, e2⟩ := Option.bind_eq_some_iff.mp ee
  refine ⟨F, r, s, p, s1, S0, e1, fun F1 H1 E1 T1 => ?_⟩
  cases p with
  | true => dsimp only at e2; rw [if_pos rfl, evts] at e2; cases e2; exact k F1 H1 E1 T1
  | false => cases e2; exact k F1 H1 E1 T1
theorem Ext.over {F F' : Addr → Prop} {H H' : Hp} (e : Ext W F H F' H') {p : Addr} {o : HO} (hp : H p = none) : Ext W F H F' (upd H' p o) where
  keep := fun a q e1 n1 n2 => by rw [upd_ne (ne_of_none e1 hp)]; exact e.keep a q e1 n1 n2
  mono := e.mono
  new := e.new
  live := fun a h => by
    by_cases q : a = p
    · subst q; rw [upd_same]; simp
    · rw [upd_ne q]; exact e.live a h
  alive := fun a h => by
    by_cases q : a = p
    · subst q; rw [upd_same]; simp
    · rw [upd_ne q]; exact e.alive a h
theorem Tp.over {s : T} {H : Hp} (t : Tp W s H) {p : Addr} {o : HO} (n1 : p ≠ W.ba) (n2 : p ≠ W.ca) : Tp W s (upd H p o) :=
  ⟨by rw [upd_ne n1.symm]; exact t.1, by rw [upd_ne n2.symm]; exact t.2.1, t.2.2⟩
theorem wipe_eq' {σ σ' : L2.St} {is own : List Nat} (h : Off (wipe σ own) σ' is) (hv : ∀ i ∈ is, i ∈ own) : wipe σ' own = wipe σ own := by
  have e : wipe (wipe σ own) own = wipe σ own := by
    apply List.ext_getElem?
    intro i
    rw [get_wipe, get_wipe]
    by_cases hi : i ∈ own
    · rw [if_pos hi, if_pos hi, Option.map_map]; rfl
    · rw [if_neg hi, if_neg hi]
  rw [← e]
  exact wipe_eq h.1 fun i hi => h.2 i fun z => hi (hv i z)
theorem lc_weak {wi : TI} {k : Ik} {es cs : List E} {t : Tg} {own : List Nat} {σ : L2.St} {H : Hp} {Q : VK} (hv : ∀ i ∈ tgV t, i ∈ own) (hw : wi = iO W G k es) (q : gF W G (.lc own t k es cs e) σ H Q) : tLc wi (gG W t) (gTs W G cs) (gV W G e) own σ H Q := by
  subst hw
  obtain ⟨F, r, s, d, s', S0, ee, kk⟩ := q
  rw [ev] at ee
  obtain ⟨p, e1, e2⟩ := Option.bind_eq_some_iff.mp ee
  obtain ⟨xs, e3, e4⟩ := Option.bind_eq_some_iff.mp e2
  obtain ⟨qq, e5, e6⟩ := Option.map_eq_some_iff.mp e4
  cases e6
  refine ⟨F, r, s, p.1, p.2, xs, S0, e1, e3, fun F1 H1 J L E1 T1 w1 => fun A hA => ?_⟩
  have nA1 : A ≠ W.ba := fun z => T1.ba_some (z ▸ hA)
  have nA2 : A ≠ W.ca := fun z => T1.ca_some (z ▸ hA)
  have nAF : ¬ F1 A := fun z => E1.live A z hA
  refine lc_it w1.w (fun i H2 => ∃ F2 s2 acc ds q2, Ext W F1 H1 F2 H2 ∧ Tp W s2 H2 ∧ H2 A = some (.lst acc) ∧ RepL W F2 H2 ds acc ∧ ¬ F2 A ∧ lcF (fun x s => (bindT t x (wipeE r own)).bind fun r' => (evts G cs r' s).bind fun q => if q.1 then ((ev G e r').v q.2).map fun u => (some u.1, u.2) else some (none, q.2)) (xs.drop i) s2 = some q2 ∧ ds ++ q2.1 = qq.1 ∧ q2.2 = qq.2 ∧ acc.length ≤ i)
    ?_ ?_ ?_ ?_
  · exact ⟨F1, p.2, [], [], qq, Ext.laid E1.live hA, T1.laid hA, upd_same, rfl, nAF, e5, rfl, rfl, Nat.le_refl _⟩
  · rintro i H2 _ ⟨F2, s2, acc, ds, q2, E2, _⟩ a ha
    obtain ⟨n1, n2, n3⟩ := w1.ne a ha
    cases z : H1 a with
    | none => exact absurd z n3
    | some o => exact E2.keep a o z n1 n2
  · rintro i x H2 H3 hi ⟨F2, s2, acc, ds, q2, E2, T2, hacc, RR, nF, el, eq1, eq2, hlen⟩ y
    have P1 := S0.pl.ext E1 T1
    have P2 := P1.ext E2 T2
    obtain ⟨xd, hxd⟩ : ∃ xd, xs[i]? = some xd := ⟨xs[i], by simp [hi]⟩
    have hdrop : xs.drop i = xd :: xs.drop (i + 1) := by
      rw [List.drop_eq_getElem_cons hi]
      congr 1
      rw [List.getElem?_eq_getElem hi] at hxd
      exact Option.some.inj hxd
    obtain ⟨F3, E3, T3, R3⟩ := Yl.rep P2 (y xd hxd F2 E2.mono (E2.frozen P1.f2 P1.f3) E2.live)
    rw [hdrop, lcF] at el
    obtain ⟨p1, f1, f2⟩ := Option.bind_eq_some_iff.mp el
    obtain ⟨p2, f3, f4⟩ := Option.map_eq_some_iff.mp f2
    obtain ⟨r', g1, g2⟩ := Option.bind_eq_some_iff.mp f1
    obtain ⟨⟨bb, s4⟩, g3, g4⟩ := Option.bind_eq_some_iff.mp g2
    have S3 := S0.ext ((E1.trans E2).trans E3) T3
    have keepA : ∀ {F' F'' : Addr → Prop} {H' H'' : Hp}, Ext W F' H' F'' H'' → H' A = some (.lst acc) → H'' A = some (.lst acc) := fun E' z => E'.keep A _ z nA1 nA2
    have nfA : ∀ {F' F'' : Addr → Prop} {H' H'' : Hp}, Ext W F' H' F'' H'' → H' A = some (.lst acc) → ¬ F' A → ¬ F'' A := fun E' z n z' => by
      rcases E'.new A z' with u | u
      · exact n u
      · rw [z] at u; cases u
    have a3 := keepA E3 hacc
    have n3 := nfA E3 hacc nF
    refine ⟨F3, wipeE r own, s2, xd, r', S3.wiped own, R3, g1, fun σ' S' off => ⟨wipe_eq' off hv, F3, r', s2, bb, s4, S', g3, fun F4 H4 E4 T4 => ?_⟩⟩
    have a4 := keepA E4 a3
    have n4 := nfA E4 a3 n3
    cases bb with
    | false =>
      cases g4
      cases f4
      exact iteF ⟨F4, s4, acc, ds, p2, (E2.trans E3).trans E4, T4, a4, (P2.ext E3 T3).repL E4 (P2.repL E3 RR), n4, f3, eq1, eq2, by omega⟩
    | true =>
      dsimp only at g4
      rw [if_pos rfl] at g4
      obtain ⟨⟨ud, s5⟩, g5, g6⟩ := Option.map_eq_some_iff.mp g4
      cases g6
      cases f4
      refine iteT ⟨F4, r', s4, ud, s5, S'.ext E4 T4, g5, fun F5 v H5 E5 T5 R5 => ⟨acc, keepA E5 a4, Nat.lt_of_le_of_lt hlen (Nat.lt_of_lt_of_le hi w1.sz), ?_⟩⟩
      have n5 := nfA E5 a4 n4
      have P4 := (P2.ext E3 T3).ext E4 T4
      have RR5 : RepL W F5 H5 (ds ++ [ud]) (acc ++ [v]) := RepL.append (P4.repL E5 ((P2.ext E3 T3).repL E4 (P2.repL E3 RR))) ⟨v, [], rfl, R5, rfl⟩
      refine ⟨F5, s5, acc ++ [v], ds ++ [ud], p2, Ext.over (((E2.trans E3).trans E4).trans E5) hA, T5.over nA1 nA2, upd_same, RepL.mono (fun _ q => q) (fun b q => upd_ne (fun z : b = A => n5 (z ▸ q))) _ _ RR5, n5, f3, ?_, eq2, ?_⟩
      · rw [List.append_assoc]; exact eq1
      · rw [List.length_append, List.length_singleton]; omega
  · rintro H2 ⟨F2, s2, acc, ds, q2, E2, T2, hacc, RR, nF, el, eq1, eq2, hlen⟩
    rw [List.drop_length, lcF] at el
    cases el
    rw [List.append_nil] at eq1
    dsimp only at eq2
    subst eq1
    refine kk F2 (.ref A) H2 (E1.trans E2) (eq2 ▸ T2) ?_
    unfold Own
    rw [if_pos (show isMut (.lst qq.1) = true from rfl)]
    refine ⟨A, rfl, ?_, nF, by rw [hacc]; simp, ⟨A, acc, rfl, ?_, hacc, RR⟩⟩
    · cases z : H A with
      | none => rfl
      | some o => exact absurd hA (E1.alive A (by rw [z]; simp))
    · exact Nat.le_trans hlen w1.sz
end
end Ip

/-! IpK: list comprehensions, statements: the rules. -/
namespace Ip
open PySem PySem.Spec PyProof.Rows L2
section
variable {S : Sc} {W : Wd} {G : Gl} {X : Cx} {x y z tg : Expr} {a b c e : E} {pos : Pos}
theorem mk_lc {own : List Nat} {t : Tg} {k : Ik} {es cs : List E} : Mk G (.lc own t k es cs e) := fun r => ⟨_, by rw [ev]⟩
structure Lc (S : Sc) (W : Wd) (G : Gl) (elt tg iter : Expr) (ifs : List Expr) (scope : Scope) (own : List (Str × Nat)) (t : Tg) (k : Ik) (es cs : List E) (e : E) : Prop where
  hi : SI S W G tg iter k es
  ok : BlkOk S.N S.sc scope own
  hg : SG (S.blk scope) tg t
  ht : ST (S.blk scope) W G ifs cs
  he : SE (S.blk scope) W G elt e
  hs : ∀ env x, foldedSetIterable iter env x = pure x := by intro _ _; rfl
  hv : ∀ i ∈ tgV t, i ∈ own.map (·.2) := by decide
variable {elt iter : Expr} {ifs : List Expr} {scope : Scope} {own : List (Str × Nat)} {t : Tg} {k : Ik} {es cs : List E}
theorem sf_lc (L : Lc S W G elt tg iter ifs scope own t k es cs e) : SF S W G (.ListComp elt [⟨tg, iter, ifs, 0⟩] scope pos) (.lc (own.map (·.2)) t k es cs e) := fun X h =>
  PE.weak (pe_lc h.calm (h.hN ▸ h.nd) (L.hi X h).o (by rw [h.hN, h.hs]; exact L.ok) (fun s H C cl fp => L.hg W G _ (h.blk s H C cl fp)) (fun s H C cl fp => L.ht _ (h.blk s H C cl fp)) (fun s H C cl fp => (L.he _ (h.blk s H C cl fp)).v) (L.hs _))
    fun σ H Q q => lc_weak L.hv rfl q
theorem se_lc (L : Lc S W G elt tg iter ifs scope own t k es cs e) : SE S W G (.ListComp elt [⟨tg, iter, ifs, 0⟩] scope pos) (.lc (own.map (·.2)) t k es cs e) := SF.se (fun _ _ => rfl) mk_lc (sf_lc L)
end

/-! ### statements -/
def Kp (F : Addr → Prop) (H : Hp) (F' : Addr → Prop) (H' : Hp) : Prop := (∀ a, F a → F' a) ∧ ∀ a, F a → H' a = H a
theorem Kp.refl {F : Addr → Prop} {H : Hp} : Kp F H F H := ⟨fun _ h => h, fun _ _ => rfl⟩
theorem Kp.trans {F F' F'' : Addr → Prop} {H H' H'' : Hp} (a : Kp F H F' H') (b : Kp F' H' F'' H'') : Kp F H F'' H'' := ⟨fun x h => b.1 x (a.1 x h), fun x h => (b.2 x (a.1 x h)).trans (a.2 x h)⟩
def Fin (W : Wd) (F : Addr → Prop) (H : Hp) (D : Ends) : R → Prop
  | .nx r s => ∀ F' σ' H', Kp F H F' H' → Sim W F' r s σ' H' → D.nx σ' H'
  | .bk r s => ∀ F' σ' H', Kp F H F' H' → Sim W F' r s σ' H' → D.bk σ' H'
  | .ct r s => ∀ F' σ' H', Kp F H F' H' → Sim W F' r s σ' H' → D.ct σ' H'
  | .rt d s => ∀ F' v H', Ext W W.F0 W.H0 F' H' → Tp W s H' → Rep W F' H' d v → D.rt v H'
theorem Fin.kp {W : Wd} {F F' : Addr → Prop} {H H' : Hp} {D : Ends} {o : R} (k : Kp F H F' H') (h : Fin W F H D o) : Fin W F' H' D o := by
  cases o with
  | nx r s => exact fun F2 σ2 H2 k2 S2 => h F2 σ2 H2 (k.trans k2) S2
  | bk r s => exact fun F2 σ2 H2 k2 S2 => h F2 σ2 H2 (k.trans k2) S2
  | ct r s => exact fun F2 σ2 H2 k2 S2 => h F2 σ2 H2 (k.trans k2) S2
  | rt d s => exact h
def gS (W : Wd) (G : Gl) (wn : Nat) (x : S) : TS := fun D σ H => ∃ F r t o, Sim W F r t σ H ∧ ex G wn x r t = some o ∧ Fin W F H D o
def gSs (W : Wd) (G : Gl) (wn : Nat) (xs : List S) : TS := fun D σ H => ∃ F r t o, Sim W F r t σ H ∧ exs G wn xs r t = some o ∧ Fin W F H D o
def SS (S : Sc) (W : Wd) (G : Gl) (wn : Nat) (st : Stmt) (x : Ip.S) : Prop := ∀ X, Std S W G X → PS X st (gS W G wn x)
def SSs (S : Sc) (W : Wd) (G : Gl) (wn : Nat) (st : List Stmt) (xs : List Ip.S) : Prop := ∀ X, Std S W G X → PSs X st (gSs W G wn xs)
section
variable {S : Sc} {W : Wd} {G : Gl} {wn : Nat} {X : Cx} {x y z tg : Expr} {a b c e : E} {pos : Pos} {st : Stmt} {sts : List Stmt} {u : Ip.S} {us us' : List Ip.S}
theorem PS.weak {t w : TS} (h : PS X st t) (k : ∀ D σ H, w D σ H → t D σ H) : PS X st w := ⟨fun pins s σ H D I q => h.run pins s σ H D I (k D σ H q)⟩
theorem PSs.weak {t w : TS} (h : PSs X sts t) (k : ∀ D σ H, w D σ H → t D σ H) : PSs X sts w := ⟨fun pins s σ H D I q => h.run pins s σ H D I (k D σ H q)⟩
theorem Ext.kp {F F' : Addr → Prop} {H H' : Hp} {s : T} (E1 : Ext W F H F' H') (P : Pl W F H s) : Kp F H F' H' := ⟨E1.mono, E1.frozen P.f2 P.f3⟩
theorem ss_bad : SS S W G wn st .bad := fun X h => PS.weak ps_never fun D σ H q => by
  obtain ⟨F, r, t, o, S0, ee, f⟩ := q
  rw [ex] at ee
  cases ee
theorem sss_nil : SSs S W G wn [] [] := fun X h => PSs.weak pss_nil fun D σ H q => by
  obtain ⟨F, r, t, o, S0, ee, f⟩ := q
  rw [exs] at ee
  cases ee
  exact f F σ H Kp.refl S0
theorem sss_cons (h1 : SS S W G wn st u) (h2 : SSs S W G wn sts us) : SSs S W G wn (st :: sts) (u :: us) := fun X h => PSs.weak (pss_cons (h1 X h) (h2 X h)) fun D σ H q => by
  obtain ⟨F, r, t, o, S0, ee, f⟩ := q
  rw [exs] at ee
  unfold seqR at ee
  obtain ⟨o1, e1, e2⟩ := Option.bind_eq_some_iff.mp ee
  refine ⟨F, r, t, o1, S0, e1, ?_⟩
  cases o1 with
  | nx r1 s1 => exact fun F1 σ1 H1 k1 S1 => ⟨F1, r1, s1, o, S1, e2, f.kp k1⟩
  | bk r1 s1 => cases e2; exact f
  | ct r1 s1 => cases e2; exact f
  | rt d s1 => cases e2; exact f
theorem ss_pass : SS S W G wn (.Pass pos) .pas := fun X h => PS.weak ps_pass fun D σ H q => by
  obtain ⟨F, r, t, o, S0, ee, f⟩ := q
  rw [ex] at ee
  cases ee
  exact f F σ H Kp.refl S0
theorem ss_doc {i : Str} {j : Nat} {p : Pos} : SS S W G wn (.Expr (.Constant (.str i) j p) pos) .pas := fun X h => PS.weak ps_doc fun D σ H q => by
  obtain ⟨F, r, t, o, S0, ee, f⟩ := q
  rw [ex] at ee
  cases ee
  exact f F σ H Kp.refl S0
theorem ss_brk : SS S W G wn (.Break pos) .brk := fun X h => PS.weak ps_break fun D σ H q => by
  obtain ⟨F, r, t, o, S0, ee, f⟩ := q
  rw [ex] at ee
  cases ee
  exact f F σ H Kp.refl S0
theorem ss_cnt : SS S W G wn (.Continue pos) .cnt := fun X h => PS.weak ps_continue fun D σ H q => by
  obtain ⟨F, r, t, o, S0, ee, f⟩ := q
  rw [ex] at ee
  cases ee
  exact f F σ H Kp.refl S0
theorem Sim.done {F : Addr → Prop} {r : Env} {s : T} {σ : L2.St} {H : Hp} (S0 : Sim W F r s σ H) : Ext W W.F0 W.H0 F H where
  keep := S0.old
  mono := S0.f0
  new := S0.f1
  live := S0.f2
  alive := fun a h => by
    by_cases n1 : a = W.ba
    · subst n1; exact S0.tape.ba_some
    · by_cases n2 : a = W.ca
      · subst n2; exact S0.tape.ca_some
      · cases z : W.H0 a with
        | none => exact absurd z h
        | some o => rw [S0.old a o z n1 n2]; simp
theorem ss_ret (ha : SE S W G x a) : SS S W G wn (.Return (some x) pos) (.ret a) := fun X h => PS.weak (ps_ret (ha X h).v) fun D σ H q => by
  obtain ⟨F, r, t, o, S0, ee, f⟩ := q
  rw [ex] at ee
  obtain ⟨p, e1, e2⟩ := Option.map_eq_some_iff.mp ee
  cases e2
  exact ⟨F, r, t, p.1, p.2, S0, e1, fun F' v H' E1 T1 R1 => f F' v H' (S0.done.trans E1) T1 R1⟩
theorem ss_retN : SS S W G wn (.Return none pos) (.ret (.con .non)) := fun X h => PS.weak ps_retN fun D σ H q => by
  obtain ⟨F, r, t, o, S0, ee, f⟩ := q
  rw [ex, ev] at ee
  cases ee
  exact f F .non H S0.done S0.tape rfl
theorem ss_exp (ha : SE S W G x a) (hs : ∀ l env, swapsWith x none l env = pure false := by intro _ _; rfl) : SS S W G wn (.Expr x pos) (.exp a) := fun X h => PS.weak (ps_expr (ha X h).v (hs _ _)) fun D σ H q => by
  obtain ⟨F, r, t, o, S0, ee, f⟩ := q
  rw [ex] at ee
  obtain ⟨p, e1, e2⟩ := Option.map_eq_some_iff.mp ee
  cases e2
  exact ⟨F, r, t, p.1, p.2, S0, e1, fun F' v H' E1 T1 R1 => f F' σ H' (E1.kp S0.pl) (S0.ext E1 T1)⟩
theorem ss_if {xs ys : List Stmt} (hc : SE S W G x c) (ha : SSs S W G wn xs us) (hb : SSs S W G wn ys us') : SS S W G wn (.If x xs ys pos) (.ife c us us') := fun X h => PS.weak (ps_if (hc X h).t (ha X h) (hb X h)) fun D σ H q => by
  obtain ⟨F, r, t, o, S0, ee, f⟩ := q
  rw [ex] at ee
  obtain ⟨⟨p, s1⟩, e1, e2⟩ := Option.bind_eq_some_iff.mp ee
  refine ⟨F, r, t, p, s1, S0, e1, fun F1 H1 E1 T1 => ?_⟩
  cases p with
  | true => exact ⟨F1, r, s1, o, S0.ext E1 T1, e2, f.kp (E1.kp S0.pl)⟩
  | false => exact ⟨F1, r, s1, o, S0.ext E1 T1, e2, f.kp (E1.kp S0.pl)⟩
/-! assignments -/
/-- a made thing, if it is to be one's own; else a value -/
def SM (S : Sc) (W : Wd) (G : Gl) (w : Bool) (x : Expr) (e : E) : Prop := if w = true then SF S W G x e else SE S W G x e
def gM (W : Wd) (G : Gl) (w : Bool) (e : E) : TE := if w = true then gF W G e else gV W G e
def Res (W : Wd) (H : Hp) (w : Bool) (F' : Addr → Prop) (H' : Hp) (d : D) (v : V) : Prop := if w = true then Own W H F' H' d v else Rep W F' H' d v
theorem SM.pe {w : Bool} (h : SM S W G w x e) (hX : Std S W G X) : PE X x (gM W G w e) := by
  cases w with
  | true => exact h X hX
  | false => exact (SEx.v ((show SE S W G x e from h) X hX))
end
end Ip

/-! IpL: assignments, loops, what changes one's own. -/
namespace Ip
open PySem PySem.Spec PyProof.Rows L2
section
variable {S : Sc} {W : Wd} {G : Gl} {wn : Nat} {X : Cx} {x y z tg : Expr} {a b c e : E} {pos : Pos} {st : Stmt} {sts : List Stmt} {u : Ip.S} {us us' : List Ip.S}
theorem Sim.setM {F F' : Addr → Prop} {r : Env} {s s' : T} {σ : L2.St} {H H' : Hp} {w : Bool} {d : D} {v : V} (S0 : Sim W F r s σ H) (E1 : Ext W F H F' H') (t : Tp W s' H') (i : Nat) (h : Res W H w F' H' d v) : Sim W F' (setO r i w d) s' (σ.set i (some v)) H' := by
  cases w with
  | true => exact S0.seto E1 t i h
  | false => exact (S0.ext E1 t).setv i h
theorem gM_of {w : Bool} {σ : L2.St} {H : Hp} {Q : VK} {F : Addr → Prop} {r : Env} {s : T} {d : D} {s' : T} (S0 : Sim W F r s σ H) (e1 : (ev G e r).v s = some (d, s')) (k : ∀ F' v H', Ext W F H F' H' → Tp W s' H' → Res W H w F' H' d v → Q v H') : gM W G w e σ H Q := by
  cases w with
  | true => exact ⟨F, r, s, d, s', S0, e1, k⟩
  | false => exact ⟨F, r, s, d, s', S0, e1, k⟩
structure Nm (S : Sc) (i : Nat) (n : Str) : Prop where
  hi : S.N[i]? = some n := by rfl
  hx : Loc S.sc n := by first | exact Or.inl rfl | exact Or.inr rfl
  hf : S.fn n = true ∨ S.sc.names.lookup n = some .local := by first | exact .inl rfl | exact .inr rfl
theorem ss_set (i : Nat) (w : Bool) {n : Str} {p : Pos} (h1 : SM S W G w x e) (hn : Nm S i n := by exact {}) (hs : ∀ l env, swapsWith x (some (.Name n p)) l env = pure false := by intro _ _; rfl) : SS S W G wn (.Assign [.Name n p] x pos) (.set i w e) := fun X h => by
  refine PS.weak (ps_set (i := i) (h.hN ▸ h.nd) (by rw [h.hN]; exact hn.hi) (by rw [h.hs]; exact hn.hx) (h1.pe h) (hs _ _) (by rw [h.hs]; exact hn.hf.imp (h.hf n) id)) fun D σ H q => ?_
  obtain ⟨F, r, t, o, S0, ee, f⟩ := q
  rw [ex] at ee
  obtain ⟨p, e1, e2⟩ := Option.map_eq_some_iff.mp ee
  cases e2
  exact gM_of S0 (d := p.1) (s' := p.2) e1 fun F' v H' E1 T1 R1 => f F' _ H' (E1.kp S0.pl) (S0.setM E1 T1 i R1)
theorem tLc_gM {wi : TI} {k : Ik} {es cs : List E} {t : Tg} {own : List Nat} {σ : L2.St} {H : Hp} {Q : VK} {w : Bool} (hv : ∀ i ∈ tgV t, i ∈ own) (hw : wi = iO W G k es) (q : gM W G w (.lc own t k es cs e) σ H Q) : tLc wi (gG W t) (gTs W G cs) (gV W G e) own σ H Q := by
  cases w with
  | true => exact lc_weak hv hw q
  | false =>
    obtain ⟨F, r, s, d, s', S0, ee, k⟩ := q
    refine lc_weak hv hw ⟨F, r, s, d, s', S0, ee, fun F' v H' E1 T1 O1 => ?_⟩
    obtain ⟨F2, E2, R2⟩ := Own.rep E1 O1
    exact k F2 v H' E2 T1 R2
theorem ss_setLc (i : Nat) (w : Bool) {n : Str} {p spos : Pos} {elt iter : Expr} {ifs : List Expr} {scope : Scope} {own : List (Str × Nat)} {t : Tg} {k : Ik} {es cs : List E} (L : Lc S W G elt tg iter ifs scope own t k es cs e) (hn : Nm S i n := by exact {})
    (hk : S.sc.kind = .function := by rfl) (hy : S.sc.names.lookup n = some .local := by rfl) (hl : (p.line == pos.line) = true := by rfl) (ha : (scope.names.any fun (m, k) => m == n && (k == .local || k == .cell)) = false := by rfl) :
    SS S W G wn (.Assign [.Name n p] (.ListComp elt [⟨tg, iter, ifs, 0⟩] scope pos) spos) (.set i w (.lc (own.map (·.2)) t k es cs e)) := fun X h => by
  refine PS.weak (ps_setLc (i := i) h.calm (h.hN ▸ h.nd) (by rw [h.hN]; exact hn.hi) (by rw [h.hs]; exact hy) (sw_true (by rw [h.hs]; exact hk) (by rw [h.hs]; exact hy) hl ha) (L.hi X h).o (by rw [h.hN, h.hs]; exact L.ok)
    (fun s H C cl fp => L.hg W G _ (h.blk s H C cl fp)) (fun s H C cl fp => L.ht _ (h.blk s H C cl fp)) (fun s H C cl fp => (L.he _ (h.blk s H C cl fp)).v) (L.hs _)) fun D σ H q => ?_
  obtain ⟨F, r, t, o, S0, ee, f⟩ := q
  rw [ex] at ee
  obtain ⟨p, e1, e2⟩ := Option.map_eq_some_iff.mp ee
  cases e2
  refine tLc_gM L.hv rfl (gM_of (w := w) S0 (d := p.1) (s' := p.2) e1 fun F' v H' E1 T1 R1 => f F' _ H' (E1.kp S0.pl) (S0.setM E1 T1 i R1))
theorem ss_par2 (i j : Nat) (w1 w2 : Bool) {n m : Str} {px py pt pt2 : Pos} {kt k2 : Nat} (h1 : SM S W G w1 x a) (h2 : SM S W G w2 y b) (hi : S.N[i]? = some n := by rfl) (hj : S.N[j]? = some m := by rfl) (hij : i ≠ j := by decide)
    (hx : S.sc.names.lookup n = some .local := by rfl) (hy : S.sc.names.lookup m = some .local := by rfl)
    (hw : ∀ env : PySem.Env, env.scope = S.sc → swappedStores [.Tuple [.Name n px, .Name m py] kt pt] (.Tuple [x, y] k2 pt2) env = pure (some [n, m]) := by intro env he; cases env; cases he; rfl)
    (hst : ∀ env, starEach [x, y] env = (false, eval x env) :: starEach [y] env := by intro _; rfl) (hst2 : ∀ env, starEach [y] env = (false, eval y env) :: starEach [] env := by intro _; rfl) :
    SS S W G wn (.Assign [.Tuple [.Name n px, .Name m py] kt pt] (.Tuple [x, y] k2 pt2) pos) (.par [(i, w1), (j, w2)] [a, b]) := fun X h => by
  refine PS.weak (ps_par h.calm (h.hN ▸ h.nd) (by rw [h.hN]; exact hi) (by rw [h.hN]; exact hj) hij (by rw [h.hs]; exact hx) (by rw [h.hs]; exact hy) (pa_cons (h1.pe h) (pa_cons (h2.pe h) pa_nil (hst2 _)) (hst _)) (hw _ h.hs)) fun D σ H q => ?_
  obtain ⟨F, r, t, o, S0, ee, f⟩ := q
  rw [ex] at ee
  obtain ⟨p, e1, e2⟩ := Option.bind_eq_some_iff.mp ee
  obtain ⟨r', e3, e4⟩ := Option.map_eq_some_iff.mp e2
  cases e4
  rw [evs] at e1
  obtain ⟨q1, f1, f2⟩ := Option.bind_eq_some_iff.mp e1
  obtain ⟨q2, f3, f4⟩ := Option.map_eq_some_iff.mp f2
  cases f4
  rw [evs] at f3
  obtain ⟨q3, f5, f6⟩ := Option.bind_eq_some_iff.mp f3
  obtain ⟨q4, f7, f8⟩ := Option.map_eq_some_iff.mp f6
  rw [evs] at f7
  cases f7
  cases f8
  simp only [setOs] at e3
  cases e3
  refine gM_of S0 (d := q1.1) (s' := q1.2) f1 fun F1 v1 H1 E1 T1 R1 => gM_of (S0.ext E1 T1) (d := q3.1) (s' := q3.2) f5 fun F2 v2 H2 E2 T2 R2 => ?_
  exact ⟨v1, v2, rfl, f F2 _ H2 ((E1.trans E2).kp S0.pl) ((S0.setM E1 T1 i R1).setM E2 T2 j R2)⟩
theorem ss_par3 (i j l : Nat) (w1 w2 w3 : Bool) {n m o : Str} {px py pz pt pt2 : Pos} {kt k2 : Nat} (h1 : SM S W G w1 x a) (h2 : SM S W G w2 y b) (h3 : SM S W G w3 z c) (hi : S.N[i]? = some n := by rfl) (hj : S.N[j]? = some m := by rfl) (hl : S.N[l]? = some o := by rfl) (hij : i ≠ j := by decide) (hil : i ≠ l := by decide) (hjl : j ≠ l := by decide)
    (hx : S.sc.names.lookup n = some .local := by rfl) (hy : S.sc.names.lookup m = some .local := by rfl) (hz : S.sc.names.lookup o = some .local := by rfl)
    (hw : ∀ env : PySem.Env, env.scope = S.sc → swappedStores [.Tuple [.Name n px, .Name m py, .Name o pz] kt pt] (.Tuple [x, y, z] k2 pt2) env = pure (some [n, m, o]) := by intro env he; cases env; cases he; rfl)
    (hst : ∀ env, starEach [x, y, z] env = (false, eval x env) :: starEach [y, z] env := by intro _; rfl) (hst2 : ∀ env, starEach [y, z] env = (false, eval y env) :: starEach [z] env := by intro _; rfl) (hst3 : ∀ env, starEach [z] env = (false, eval z env) :: starEach [] env := by intro _; rfl) :
    SS S W G wn (.Assign [.Tuple [.Name n px, .Name m py, .Name o pz] kt pt] (.Tuple [x, y, z] k2 pt2) pos) (.par [(i, w1), (j, w2), (l, w3)] [a, b, c]) := fun X h => by
  refine PS.weak (ps_par3 h.calm (h.hN ▸ h.nd) (by rw [h.hN]; exact hi) (by rw [h.hN]; exact hj) (by rw [h.hN]; exact hl) hij hil hjl (by rw [h.hs]; exact hx) (by rw [h.hs]; exact hy) (by rw [h.hs]; exact hz) (pa_cons (h1.pe h) (pa_cons (h2.pe h) (pa_cons (h3.pe h) pa_nil (hst3 _)) (hst2 _)) (hst _)) (hw _ h.hs)) fun D σ H q => ?_
  obtain ⟨F, r, t, o, S0, ee, f⟩ := q
  rw [ex] at ee
  obtain ⟨p, e1, e2⟩ := Option.bind_eq_some_iff.mp ee
  obtain ⟨r', e3, e4⟩ := Option.map_eq_some_iff.mp e2
  cases e4
  rw [evs] at e1
  obtain ⟨q1, f1, f2⟩ := Option.bind_eq_some_iff.mp e1
  obtain ⟨q2, f3, f4⟩ := Option.map_eq_some_iff.mp f2
  cases f4
  rw [evs] at f3
  obtain ⟨q3, f5, f6⟩ := Option.bind_eq_some_iff.mp f3
  obtain ⟨q4, f7, f8⟩ := Option.map_eq_some_iff.mp f6
  cases f8
  rw [evs] at f7
  obtain ⟨q5, f9, f10⟩ := Option.bind_eq_some_iff.mp f7
  obtain ⟨q6, f11, f12⟩ := Option.map_eq_some_iff.mp f10
  rw [evs] at f11
  cases f11
  cases f12
  simp only [setOs] at e3
  cases e3
  refine gM_of S0 (d := q1.1) (s' := q1.2) f1 fun F1 v1 H1 E1 T1 R1 => gM_of (S0.ext E1 T1) (d := q3.1) (s' := q3.2) f5 fun F2 v2 H2 E2 T2 R2 => gM_of ((S0.ext E1 T1).ext E2 T2) (d := q5.1) (s' := q5.2) f9 fun F3 v3 H3 E3 T3 R3 => ?_
  exact ⟨v1, v2, v3, rfl, f F3 _ H3 (((E1.trans E2).trans E3).kp S0.pl) (((S0.setM E1 T1 i R1).setM E2 T2 j R2).setM E3 T3 l R3)⟩
/-- names set by way of a tuple object -/
theorem ss_parT2 (i j : Nat) (w1 w2 : Bool) {n m : Str} {px py pt pt2 : Pos} {kt k2 : Nat} (h1 : SM S W G w1 x a) (h2 : SM S W G w2 y b) (hn : Nm S i n := by exact {}) (hm : Nm S j m := by exact {})
    (hw : ∀ env : PySem.Env, env.scope = S.sc → swappedStores [.Tuple [.Name n px, .Name m py] kt pt] (.Tuple [x, y] k2 pt2) env = pure none := by intro env he; cases env; cases he; rfl)
    (hst : ∀ env, starEach [x, y] env = (false, eval x env) :: starEach [y] env := by intro _; rfl) (hst2 : ∀ env, starEach [y] env = (false, eval y env) :: starEach [] env := by intro _; rfl) :
    SS S W G wn (.Assign [.Tuple [.Name n px, .Name m py] kt pt] (.Tuple [x, y] k2 pt2) pos) (.par [(i, w1), (j, w2)] [a, b]) := fun X h => by
  have hp : ∀ {n : Str} {i : Nat} {p : Pos}, Nm S i n → PG X (.Name n p) (gName i) := fun {n i p} hn => pg_name (i := i) (h.hN ▸ h.nd) (by rw [h.hN]; exact hn.hi) (by rw [h.hs]; exact hn.hx) (by rw [h.hs]; exact hn.hf.imp (h.hf n) id)
  refine PS.weak (ps_asg (pe_tup (pa_cons (h1.pe h) (pa_cons (h2.pe h) pa_nil (hst2 _)) (hst _))) (pg_tup (n := 2) h.calm (pgs_cons (hp hn) (pgs_cons (hp hm) pgs_nil rfl) rfl) rfl rfl) rfl (hw _ h.hs) rfl) fun D σ H q => ?_
  obtain ⟨F, r, t, o, S0, ee, f⟩ := q
  rw [ex] at ee
  obtain ⟨p, e1, e2⟩ := Option.bind_eq_some_iff.mp ee
  obtain ⟨r', e3, e4⟩ := Option.map_eq_some_iff.mp e2
  cases e4
  rw [evs] at e1
  obtain ⟨q1, f1, f2⟩ := Option.bind_eq_some_iff.mp e1
  obtain ⟨q2, f3, f4⟩ := Option.map_eq_some_iff.mp f2
  cases f4
  rw [evs] at f3
  obtain ⟨q3, f5, f6⟩ := Option.bind_eq_some_iff.mp f3
  obtain ⟨q4, f7, f8⟩ := Option.map_eq_some_iff.mp f6
  rw [evs] at f7
  cases f7
  cases f8
  simp only [setOs] at e3
  cases e3
  refine gM_of S0 (d := q1.1) (s' := q1.2) f1 fun F1 v1 H1 E1 T1 R1 => gM_of (S0.ext E1 T1) (d := q3.1) (s' := q3.2) f5 fun F2 v2 H2 E2 T2 R2 => ⟨by rw [← szL_eq]; show 2 ≤ szL; decide, fun p hp => ?_⟩
  have S2 := (S0.setM E1 T1 i R1).setM E2 T2 j R2
  have E3 : Ext W F2 H2 F2 (upd H2 p (.tup [v1, v2])) := Ext.laid E2.live hp
  exact ⟨p, [v1, v2], rfl, SqT.of upd_same, rfl, v1, [v2], rfl, v2, [], rfl, rfl, f F2 _ _ (((E1.trans E2).trans E3).kp S0.pl) (S2.ext E3 (T2.laid hp))⟩
theorem ss_parT3 (i j l : Nat) (w1 w2 w3 : Bool) {n m o : Str} {px py pz pt pt2 : Pos} {kt k2 : Nat} (h1 : SM S W G w1 x a) (h2 : SM S W G w2 y b) (h3 : SM S W G w3 z c) (hn : Nm S i n := by exact {}) (hm : Nm S j m := by exact {}) (ho : Nm S l o := by exact {})
    (hw : ∀ env : PySem.Env, env.scope = S.sc → swappedStores [.Tuple [.Name n px, .Name m py, .Name o pz] kt pt] (.Tuple [x, y, z] k2 pt2) env = pure none := by intro env he; cases env; cases he; rfl)
    (hst : ∀ env, starEach [x, y, z] env = (false, eval x env) :: starEach [y, z] env := by intro _; rfl) (hst2 : ∀ env, starEach [y, z] env = (false, eval y env) :: starEach [z] env := by intro _; rfl) (hst3 : ∀ env, starEach [z] env = (false, eval z env) :: starEach [] env := by intro _; rfl) :
    SS S W G wn (.Assign [.Tuple [.Name n px, .Name m py, .Name o pz] kt pt] (.Tuple [x, y, z] k2 pt2) pos) (.par [(i, w1), (j, w2), (l, w3)] [a, b, c]) := fun X h => by
  have hp : ∀ {n : Str} {i : Nat} {p : Pos}, Nm S i n → PG X (.Name n p) (gName i) := fun {n i p} hn => pg_name (i := i) (h.hN ▸ h.nd) (by rw [h.hN]; exact hn.hi) (by rw [h.hs]; exact hn.hx) (by rw [h.hs]; exact hn.hf.imp (h.hf n) id)
  refine PS.weak (ps_asg (pe_tup (pa_cons (h1.pe h) (pa_cons (h2.pe h) (pa_cons (h3.pe h) pa_nil (hst3 _)) (hst2 _)) (hst _))) (pg_tup (n := 3) h.calm (pgs_cons (hp hn) (pgs_cons (hp hm) (pgs_cons (hp ho) pgs_nil rfl) rfl) rfl) rfl rfl) rfl (hw _ h.hs) rfl) fun D σ H q => ?_
  obtain ⟨F, r, t, o, S0, ee, f⟩ := q
  rw [ex] at ee
  obtain ⟨p, e1, e2⟩ := Option.bind_eq_some_iff.mp ee
  obtain ⟨r', e3, e4⟩ := Option.map_eq_some_iff.mp e2
  cases e4
  rw [evs] at e1
  obtain ⟨q1, f1, f2⟩ := Option.bind_eq_some_iff.mp e1
  obtain ⟨q2, f3, f4⟩ := Option.map_eq_some_iff.mp f2
  cases f4
  rw [evs] at f3
  obtain ⟨q3, f5, f6⟩ := Option.bind_eq_some_iff.mp f3
  obtain ⟨q4, f7, f8⟩ := Option.map_eq_some_iff.mp f6
  cases f8
  rw [evs] at f7
  obtain ⟨q5, f9, f10⟩ := Option.bind_eq_some_iff.mp f7
  obtain ⟨q6, f11, f12⟩ := Option.map_eq_some_iff.mp f10
  rw [evs] at f11
  cases f11
  cases f12
  simp only [setOs] at e3
  cases e3
  refine gM_of S0 (d := q1.1) (s' := q1.2) f1 fun F1 v1 H1 E1 T1 R1 => gM_of (S0.ext E1 T1) (d := q3.1) (s' := q3.2) f5 fun F2 v2 H2 E2 T2 R2 => gM_of ((S0.ext E1 T1).ext E2 T2) (d := q5.1) (s' := q5.2) f9 fun F3 v3 H3 E3 T3 R3 => ⟨by rw [← szL_eq]; show 3 ≤ szL; decide, fun p hp => ?_⟩
  have S3 := ((S0.setM E1 T1 i R1).setM E2 T2 j R2).setM E3 T3 l R3
  have E4 : Ext W F3 H3 F3 (upd H3 p (.tup [v1, v2, v3])) := Ext.laid E3.live hp
  exact ⟨p, [v1, v2, v3], rfl, SqT.of upd_same, rfl, v1, [v2, v3], rfl, v2, [v3], rfl, v3, [], rfl, rfl, f F3 _ _ ((((E1.trans E2).trans E3).trans E4).kp S0.pl) (S3.ext E4 (T3.laid hp))⟩
/-- a value to a target of any shape -/
theorem ss_tgt {t : Tg} (h1 : SE S W G x e) (h2 : SG S y t) (hs : ∀ l env, swapsWithSole [y] x l env = pure false := by intro _ _; rfl) (hw : ∀ env : PySem.Env, env.scope = S.sc → swappedStores [y] x env = pure none := by intro env he; cases env; cases he; rfl)
    (h3 : ∀ env, (assignEach [y] env).map (·.2) = [assign y env] := by intro _; rfl) : SS S W G wn (.Assign [y] x pos) (.tgt [t] e) := fun X h => by
  refine PS.weak (ps_asg (h1 X h).v (h2 W G X h) (hs _ _) (hw _ h.hs) (h3 _)) fun D σ H q => ?_
  obtain ⟨F, r, t, o, S0, ee, f⟩ := q
  rw [ex] at ee
  obtain ⟨p, e1, e2⟩ := Option.bind_eq_some_iff.mp ee
  obtain ⟨r', e3, e4⟩ := Option.map_eq_some_iff.mp e2
  cases e4
  simp only [bindAll] at e3
  obtain ⟨r2, e5, e6⟩ := Option.bind_eq_some_iff.mp e3
  cases e6
  exact ⟨F, r, _, p.1, p.2, S0, e1, fun F' v H' E1 T1 R1 => ⟨F', r, p.2, p.1, r', S0.ext E1 T1, R1, e5, fun σ' S' _ => f F' σ' H' (E1.kp S0.pl) S'⟩⟩
def augI : Op → Int → Int → Int
  | .add, i, j => i + j
  | _, i, j => i - j
theorem aug_iff {o : Op} (ho : (o = .add) ∨ (o = .sub)) {x0 d : D} {k : Int} (h : binD o x0 d = some (.int k)) : ∃ i j : Int, x0 = .int i ∧ d = .int j ∧ k = augI o i j := by
  rcases ho with rfl | rfl <;> cases x0 <;> cases d <;> simp only [binD] at h
  all_goals first | cases h | (split at h <;> cases h)
  · exact ⟨_, _, rfl, rfl, rfl⟩
  · exact ⟨_, _, rfl, rfl, rfl⟩
theorem ss_tgt2 {t t2 : Tg} (h1 : SE S W G x e) (h2 : SG S y t) (h4 : SG S z t2) (ha : ∀ env, (assignEach [y, z] env).map (·.2) = [assign y env, assign z env] := by intro _; rfl) (hw : ∀ env : PySem.Env, env.scope = S.sc → swappedStores [y, z] x env = pure none := by intro env he; cases env; cases he; rfl) : SS S W G wn (.Assign [y, z] x pos) (.tgt [t, t2] e) := fun X h => by
  refine PS.weak (ps_asg2 (h1 X h).v (h2 W G X h) (h4 W G X h) (ha _) (hw _ h.hs)) fun D σ H q => ?_
  obtain ⟨F, r, t, o, S0, ee, f⟩ := q
  rw [ex] at ee
  obtain ⟨p, e1, e2⟩ := Option.bind_eq_some_iff.mp ee
  obtain ⟨r', e3, e4⟩ := Option.map_eq_some_iff.mp e2
  cases e4
  simp only [bindAll] at e3
  obtain ⟨r2, e5, e6⟩ := Option.bind_eq_some_iff.mp e3
  obtain ⟨r3, e7, e8⟩ := Option.bind_eq_some_iff.mp e6
  cases e8
  exact ⟨F, r, _, p.1, p.2, S0, e1, fun F' v H' E1 T1 R1 => ⟨F', r, p.2, p.1, r2, S0.ext E1 T1, R1, e5, fun σ' S' _ => ⟨F', r2, p.2, p.1, r', S', R1, e7, fun σ2 S2 _ => f F' σ2 H' (E1.kp S0.pl) S2⟩⟩⟩
theorem ss_aug {o : Op} (i : Nat) {n : Str} {p : Pos} (ho : (o = .add) ∨ (o = .sub)) (h1 : SE S W G x e) (hn : Nm S i n := by exact {}) : SS S W G wn (.AugAssign (.Name n p) (opOf o) x pos) (.aug i o e) := fun X h => by
  have hip : PIp X (opOf o) (ipI (augI o)) := by
    rcases ho with rfl | rfl
    · exact ip_add
    · exact ip_sub
  refine PS.weak (ps_aug (i := i) (h.hN ▸ h.nd) (by rw [h.hN]; exact hn.hi) (by rw [h.hs]; exact hn.hx) (h1 X h).o hip (by rw [h.hs]; exact hn.hf.imp (h.hf n) id)) fun D σ H q => ?_
  obtain ⟨F, r, t, q, S0, ee, f⟩ := q
  rw [ex] at ee
  obtain ⟨x0, e0, ee⟩ := Option.bind_eq_some_iff.mp ee
  obtain ⟨p, e1, e2⟩ := Option.bind_eq_some_iff.mp ee
  obtain ⟨d, e3, e4⟩ := Option.bind_eq_some_iff.mp e2
  obtain ⟨v, e5, R0⟩ := S0.rep e0
  split at e4
  · rename_i k
    cases e4
    obtain ⟨i1, j1, rfl, e6, rfl⟩ := aug_iff ho e3
    refine ⟨v, e5, F, r, t, p.1, p.2, S0, e1, fun F' y H' E1 T1 O1 => ?_⟩
    rw [e6] at O1
    exact ⟨i1, j1, R0.top.int, O1.1.int, f F' _ H' (E1.kp S0.pl) ((S0.ext E1 T1).setv i rfl)⟩
  · cases e4
end
end Ip

/-! IpM: loops; one's own lists changed; freezing. -/
namespace Ip
open PySem PySem.Spec PyProof.Rows L2
section
variable {S : Sc} {W : Wd} {G : Gl} {wn : Nat} {X : Cx} {x y z tg : Expr} {a b c e : E} {pos : Pos} {st : Stmt} {sts : List Stmt} {u : Ip.S} {us us' : List Ip.S}
theorem ss_for {t : Tg} {k : Ik} {es : List E} (hi : SI S W G tg x k es) (hg : SG S tg t) (hb : SSs S W G wn sts us) (hs : ∀ env v, foldedSetIterable x env v = pure v := by intro _ _; rfl) : SS S W G wn (.For tg x sts [] pos) (.for_ t k es us) := fun X h => by
  refine PS.weak (ps_for h.po h.calm (hi X h).v (hg W G X h) (hb X h) (hs _)) fun D σ H q => ?_
  obtain ⟨F, r, s, o, S0, ee, f⟩ := q
  rw [ex] at ee
  obtain ⟨p, e1, e2⟩ := Option.bind_eq_some_iff.mp ee
  obtain ⟨xs, e3, e4⟩ := Option.bind_eq_some_iff.mp e2
  refine ⟨F, r, s, p.1, p.2, xs, S0, e1, e3, fun F1 H1 J L E1 T1 w1 hf => ?_⟩
  have k1 := E1.kp S0.pl
  refine for_it w1.w (fun i σ2 H2 => ∃ F2 r2 s2, Kp F1 H1 F2 H2 ∧ Sim W F2 r2 s2 σ2 H2 ∧ forF (fun x r s => (bindT t x r).bind fun r' => exs G wn us r' s) (xs.drop i) r2 s2 = some o) ?_ ?_ ?_ ?_
  · exact ⟨F1, r, p.2, Kp.refl, S0.ext E1 T1, e4⟩
  · rintro i σ2 H2 _ ⟨F2, r2, s2, k2, _, _⟩ b hb
    exact k2.2 b (hf b hb)
  · rintro i v σ2 H2 H3 hi ⟨F2, r2, s2, k2, S2, el⟩ yy
    obtain ⟨xd, hxd⟩ : ∃ xd, xs[i]? = some xd := ⟨xs[i], by simp [hi]⟩
    have hdrop : xs.drop i = xd :: xs.drop (i + 1) := by
      rw [List.drop_eq_getElem_cons hi]
      congr 1
      rw [List.getElem?_eq_getElem hi] at hxd
      exact Option.some.inj hxd
    obtain ⟨F3, E3, T3, R3⟩ := Yl.rep S2.pl (yy xd hxd F2 k2.1 k2.2 S2.f2)
    rw [hdrop, forF] at el
    obtain ⟨o1, f1, f2⟩ := Option.bind_eq_some_iff.mp el
    obtain ⟨r', g1, g2⟩ := Option.bind_eq_some_iff.mp f1
    have k3 := k2.trans (E3.kp S2.pl)
    refine ⟨F3, r2, s2, xd, r', S2.ext E3 T3, R3, g1, fun σ' S' _ => ⟨F3, r', s2, o1, S', g2, ?_⟩⟩
    cases o1 with
    | nx r1 s1 => exact fun F' σ3 H' k' S3 => ⟨F', r1, s1, k3.trans k', S3, f2⟩
    | ct r1 s1 => exact fun F' σ3 H' k' S3 => ⟨F', r1, s1, k3.trans k', S3, f2⟩
    | bk r1 s1 => cases f2; exact fun F' σ3 H' k' S3 => f F' σ3 H' ((k1.trans k3).trans k') S3
    | rt d s1 => cases f2; exact f
  · rintro σ2 H2 ⟨F2, r2, s2, k2, S2, el⟩
    rw [List.drop_length, forF] at el
    cases el
    exact f F2 σ2 H2 (k1.trans k2) S2
theorem ss_whl (hc : SE S W G x c) (hb : SSs S W G wn sts us) : SS S W G wn (.While x sts [] pos) (.whl c us) := fun X h => by
  refine PS.weak (ps_while h.po (hc X h).t (hb X h)) fun D σ H q => ?_
  obtain ⟨F, r, s, o, S0, ee, f⟩ := q
  rw [ex] at ee
  refine ⟨fun m σ2 H2 => ∃ F2 r2 s2, Kp F H F2 H2 ∧ Sim W F2 r2 s2 σ2 H2 ∧ whF (fun r s => ((ev G c r).t s).bind fun p => if p.1 then (exs G wn us r p.2).map fun x => (true, x) else some (false, .nx r p.2)) m r2 s2 = some o, ⟨wn, F, r, s, Kp.refl, S0, ee⟩, ?_⟩
  rintro m σ2 H2 ⟨F2, r2, s2, k2, S2, el⟩
  cases m with
  | zero => rw [whF] at el; cases el
  | succ m =>
    rw [whF] at el
    obtain ⟨yy, f1, f2⟩ := Option.bind_eq_some_iff.mp el
    obtain ⟨⟨p, s3⟩, g1, g2⟩ := Option.bind_eq_some_iff.mp f1
    refine ⟨F2, r2, s2, p, s3, S2, g1, fun F3 H3 E3 T3 => ?_⟩
    have k3 := k2.trans (E3.kp S2.pl)
    cases p with
    | false =>
      dsimp only at g2
      rw [if_neg (by decide)] at g2
      cases g2
      cases f2
      exact iteF (f F3 σ2 H3 k3 (S2.ext E3 T3))
    | true =>
      dsimp only at g2
      rw [if_pos rfl] at g2
      obtain ⟨o1, g3, g4⟩ := Option.map_eq_some_iff.mp g2
      cases g4
      dsimp only at f2
      rw [if_pos rfl] at f2
      refine iteT ⟨fun σ' H' => ∃ F2 r2 s2, Kp F H F2 H' ∧ Sim W F2 r2 s2 σ' H' ∧ whF (fun r s => ((ev G c r).t s).bind fun p => if p.1 then (exs G wn us r p.2).map fun x => (true, x) else some (false, .nx r p.2)) m r2 s2 = some o, fun σ' H' n => ⟨m, Nat.lt_succ_self m, n⟩, F3, r2, s3, o1, S2.ext E3 T3, g3, ?_⟩
      cases o1 with
      | nx r1 s1 => exact fun F' σ3 H' k' S3 => ⟨F', r1, s1, k3.trans k', S3, f2⟩
      | ct r1 s1 => exact fun F' σ3 H' k' S3 => ⟨F', r1, s1, k3.trans k', S3, f2⟩
      | bk r1 s1 => cases f2; exact fun F' σ3 H' k' S3 => f F' σ3 H' (k3.trans k') S3
      | rt d s1 => cases f2; exact f

/-! one's own lists -/
theorem ownL_at {r : Env} {i : Nat} {xs : List D} (h : ownL r i = some xs) : r[i]? = some (some (true, .lst xs)) := by
  unfold ownL at h
  split at h
  · rename_i q
    cases h
    exact q
  · cases h
theorem Sim.write {F : Addr → Prop} {r : Env} {s : T} {σ : L2.St} {H : Hp} {i : Nat} {p : Addr} {xs ys : List D} {vs : List V} (S0 : Sim W F r s σ H) (hr : r[i]? = some (some (true, .lst xs))) (hσ : σ[i]? = some (some (.ref p))) (hz : vs.length ≤ sizeLine) (R : RepL W F H ys vs) :
    Sim W F (r.set i (some (true, .lst ys))) s σ (upd H p (.lst vs)) ∧ Kp F H F (upd H p (.lst vs)) := by
  obtain ⟨p', e', _, nf, z0, hn, n1, n2⟩ := S0.own i _ hr
  rw [hσ] at e'
  cases e'
  have hl : i < r.length := by
    by_cases h : i < r.length
    · exact h
    · rw [List.getElem?_eq_none (by omega)] at hr; cases hr
  have kF : ∀ q, F q → upd H p (.lst vs) q = H q := fun q f => upd_ne fun e : q = p => nf (e ▸ f)
  have oth : ∀ (j : Nat) (d' : D) (q : Addr), j ≠ i → r[j]? = some (some (true, d')) → σ[j]? = some (some (.ref q)) → q ≠ p := fun j d' q hj h1 h2 e => S0.dis j i d' _ p hj h1 hr (e ▸ h2) hσ
  have had : ∀ (j : Nat) (d' : D), (r.set i (some (true, .lst ys)))[j]? = some (some (true, d')) → ∃ d'', r[j]? = some (some (true, d'')) := fun j d' h => by
    rcases set_some h with ⟨rfl, _, _⟩ | ⟨_, h⟩
    · exact ⟨_, hr⟩
    · exact ⟨_, h⟩
  refine ⟨?_, fun _ h => h, kF⟩
  exact {
    len := by rw [List.length_set]; exact S0.len
    val := fun j d h => by
      rcases set_some h with ⟨_, e, _⟩ | ⟨_, h⟩
      · cases e
      · obtain ⟨v, e1, q⟩ := S0.val j d h
        exact ⟨v, e1, Rep.mono (fun _ h => h) kF d v q⟩
    own := fun j d h => by
      rcases set_some h with ⟨rfl, e, _⟩ | ⟨nj, h⟩
      · cases e
        exact ⟨p, hσ, ⟨p, vs, rfl, hz, upd_same, RepL.mono (fun _ h => h) kF _ _ R⟩, nf, z0, by rw [upd_same]; simp, n1, n2⟩
      · obtain ⟨q, e1, tp, f1, f2, f3, f4⟩ := S0.own j d h
        have nq := oth j d q nj h e1
        refine ⟨q, e1, Top.mono (fun _ h => h) kF (fun b o eb _ hb => ?_) tp, f1, f2, by rw [upd_ne nq]; exact f3, f4⟩
        cases eb
        rw [upd_ne nq]
        exact hb
    dis := fun j k d d' q hjk h1 h2 h3 h4 => by
      obtain ⟨d1, h1⟩ := had j d h1
      obtain ⟨d2, h2⟩ := had k d' h2
      exact S0.dis j k d1 d2 q hjk h1 h2 h3 h4
    old := fun q o h m1 m2 => by rw [upd_ne (ne_of_none h z0)]; exact S0.old q o h m1 m2
    f0 := S0.f0
    f1 := S0.f1
    f2 := fun q h => by rw [kF q h]; exact S0.f2 q h
    f3 := S0.f3
    tape := S0.tape.over n1 n2 }
theorem Sim.own_at {F : Addr → Prop} {r : Env} {s : T} {σ : L2.St} {H : Hp} {i : Nat} {xs : List D} (S0 : Sim W F r s σ H) (hr : ownL r i = some xs) : ∃ p vs, σ[i]? = some (some (.ref p)) ∧ vs.length ≤ sizeLine ∧ H p = some (.lst vs) ∧ RepL W F H xs vs := by
  obtain ⟨p, e1, tp, _⟩ := S0.own i _ (ownL_at hr)
  obtain ⟨p', vs, e2, z, q, R⟩ := tp.lst
  cases e2
  exact ⟨p, vs, e1, z, q, R⟩
theorem few_one {env : PySem.Env} {cpos : Pos} (st : starEach [x] env = [(false, eval x env)]) : ((backTo cpos (starEach [x] env)).all (fun x => !x.1) && (backToKw cpos (keywordEach [] env)).all (fun x => x.1.isSome)
      && decide (([x] : List Expr).length + ([] : List Keyword).length + (if ([] : List Keyword).isEmpty then 0 else 1) < 30)) = true := by
  rw [st]
  rfl
theorem ss_app (i : Nat) {n m : Str} {p ap : Pos} {cp : Pos} (h1 : SE S W G x e) (hi : S.N[i]? = some n := by rfl) (hv : Vis S.sc n := by first | exact Or.inl rfl | exact Or.inr (Or.inl rfl) | exact Or.inr (Or.inr rfl)) (hm : m = "append" := by rfl) (hd : (n == ("__debug__" : Str)) = false := by decide) (hcd : (n == ("__classdict__" : Str)) = false := by decide)
    (hline : (ap.endLine == cp.line) = true := by rfl) (hst : ∀ env, starEach [x] env = [(false, eval x env)] := by intro _; rfl) : SS S W G wn (.Expr (.Call (.Attribute (.Name n p) m ap) [x] [] cp) pos) (.app i e) := fun X h => by
  subst hm
  have pv : PE X (.Name n p) (tVar i) := pe_var (by rw [h.hN]; exact hi) (by rw [h.hs]; exact hv) hd hcd
  refine PS.weak (ps_expr (pe_bm PySem.F.plainAttrs_list PySem.F.slot_list_append PySem.F.type_list_append mt_append pv (pa_cons (h1 X h).v pa_nil (hst _)) rfl (few_one (hst _)) hline (hst _) rfl) rfl) fun D σ H q => ?_
  obtain ⟨F, r, t, o, S0, ee, f⟩ := q
  rw [ex] at ee
  obtain ⟨q, e1, e2⟩ := Option.bind_eq_some_iff.mp ee
  obtain ⟨xs, e3, e4⟩ := Option.bind_eq_some_iff.mp e2
  split at e4
  · rename_i hlt
    cases e4
    obtain ⟨pp, vs, s1, z, q1, R1⟩ := S0.own_at e3
    refine ⟨_, s1, .inl ⟨rfl, vs, SqL.of q1⟩, F, r, t, q.1, q.2, S0, e1, fun F' v H' E1 T1 R' => ?_⟩
    have S1 := S0.ext E1 T1
    obtain ⟨pp', vs', s1', z', q1', R1'⟩ := S1.own_at e3
    rw [s1] at s1'
    cases s1'
    have hlt' : vs'.length < sizeLine := by rw [R1'.length, ← szL_eq]; exact hlt
    refine ⟨pp, vs', v, rfl, rfl, q1', hlt', ?_⟩
    obtain ⟨S2, k2⟩ := S1.write (ownL_at e3) s1 (vs := vs' ++ [v]) (ys := xs ++ [q.1]) (by rw [List.length_append, List.length_singleton]; omega) (RepL.append R1' ⟨v, [], rfl, R', rfl⟩)
    exact f F' σ _ ((E1.kp S0.pl).trans k2) S2
  · cases e4
theorem list_extT (l : Addr) (items : Array Value) (n : Nat) (b : Addr) (items2 : Array Value) (n2 : Nat) (dd : Option Addr) (sl : Array (Option Value)) (hs0 : ¬(!items.isEmpty && Builtin.List.listTooLong (items.size + items2.size)) = true) (hs1 : items.size ≤ sizeLine) (hs2 : items.size + items2.size ≤ sizeLine + 1) :
    PySem.Meets (Builtin.«list.extend» ⟨[.ref l, .ref b], []⟩) (fun _ R s => s.heap.get? l = some { cls := .type "list", dict := none, data := .seq items n, slots := #[] } ∧ s.heap.get? b = some { cls := .type "tuple", dict := dd, data := .seq items2 n2, slots := sl } ∧ R (.ok (.ret Value.none)) { s with heap := s.heap.update l (Obj.mapSeq fun x => x ++ items2), toks := s.toks }) :=
  .of_wp fun prog w A R s h => by
    obtain ⟨hp, g, d, tk, os⟩ := s
    obtain ⟨hl, hb, h⟩ := h
    have f1 := AutoSeq1.idx_int
    have f2 := AutoSeq1.sub_tuple_tuple
    have f3 := AutoSeq1.sub_list_list
    have f4 := AutoSeq1.sub_tuple_list
    have f5 := AutoSeq1.sub_list_tuple
    have hz' : (items ++ items2).size ≤ sizeLine + 1 := by rw [Array.size_append]; exact hs2
    wp_walk using (wpAny_updateSeq hl rfl (hz := hs1) (_hz' := hz')), wpAny_loadPart' hl, wpAny_loadPart' hb
    exact ⟨_, rfl, h⟩
/-- extend by a tuple -/
def rExtT (K : PySem.W.Frag) : V → List V → Hp → VK → Prop := fun x vs H Q => ∃ l b xs zs, x = .ref l ∧ vs = [.ref b] ∧ H l = some (.lst xs) ∧ SqT K H b zs ∧ xs.length + zs.length ≤ sizeLine ∧ Q .non (upd H l (.lst (xs ++ zs)))
theorem mt_extT : MtM X "list.extend" (rExtT X.K) := by
  intro pins s σ H x vs v us Q I rx rv h
  obtain ⟨l, b, xs, zs, rfl, rfl, hH, hB, hz, q⟩ := h
  cases rx
  obtain ⟨u, rfl, ru⟩ := rv.one
  cases ru
  obtain ⟨z, its, n, r, hl, e⟩ := I.lstM hH
  obtain ⟨its2, r2, ⟨⟨cls, dd, data, sl⟩, ho, hc, n2, hd⟩, hz2⟩ := I.tuple hB
  simp only at hc hd
  subst hc hd
  have hl2 := r2.length
  have hsz : its.toArray.size + its2.toArray.size ≤ sizeLine := by rw [List.size_toArray, List.size_toArray]; omega
  have hlong : ¬ (!its.toArray.isEmpty && Builtin.List.listTooLong (its.toArray.size + its2.toArray.size)) = true := by
    rw [notLongL hsz, Bool.and_false]
    exact Bool.false_ne_true
  refine call_meets PySem.F.slot_list_extend ⟨_, e, rfl⟩ PySem.F.entry_list_extend (PySem.F.args_list_extend_2 _ _)
    (list_extT l its.toArray n b its2.toArray n2 dd sl hlong (by rw [List.size_toArray]; omega) (by omega)) ⟨e, ho, ?_⟩
  refine ⟨.non, _, I.lset (its' := its ++ its2) hH e (by simp) (r.append r2) ?_, rfl, q⟩
  rw [List.length_append]
  omega
def rExt2 (K : PySem.W.Frag) : V → List V → Hp → VK → Prop := fun x vs H Q => rExtend x vs H Q ∨ rExtT K x vs H Q
theorem mt_ext2 : MtM X "list.extend" (rExt2 X.K) := by
  intro pins s σ H x vs v us Q I rx rv h
  rcases h with h | h
  · exact mt_extend pins s σ H x vs v us Q I rx rv h
  · exact mt_extT pins s σ H x vs v us Q I rx rv h
theorem ss_ext (i : Nat) {n m : Str} {p ap : Pos} {cp : Pos} (h1 : SE S W G x e) (hi : S.N[i]? = some n := by rfl) (hv : Vis S.sc n := by first | exact Or.inl rfl | exact Or.inr (Or.inl rfl) | exact Or.inr (Or.inr rfl)) (hm : m = "extend" := by rfl) (hd : (n == ("__debug__" : Str)) = false := by decide) (hcd : (n == ("__classdict__" : Str)) = false := by decide)
    (hline : (ap.endLine == cp.line) = true := by rfl) (hst : ∀ env, starEach [x] env = [(false, eval x env)] := by intro _; rfl) : SS S W G wn (.Expr (.Call (.Attribute (.Name n p) m ap) [x] [] cp) pos) (.ext i e) := fun X h => by
  subst hm
  have pv : PE X (.Name n p) (tVar i) := pe_var (by rw [h.hN]; exact hi) (by rw [h.hs]; exact hv) hd hcd
  refine PS.weak (ps_expr (pe_bm PySem.F.plainAttrs_list PySem.F.slot_list_extend PySem.F.type_list_extend mt_ext2 pv (pa_cons (h1 X h).v pa_nil (hst _)) rfl (few_one (hst _)) hline (hst _) rfl) rfl) fun D σ H q => ?_
  obtain ⟨F, r, t, o, S0, ee, f⟩ := q
  rw [ex] at ee
  obtain ⟨q, e1, e2⟩ := Option.bind_eq_some_iff.mp ee
  obtain ⟨xs, e3, e4⟩ := Option.bind_eq_some_iff.mp e2
  split at e4
  · rename_i ys hq
    split at e4
    · rename_i hlt
      cases e4
      obtain ⟨pp, vs, s1, z, q1, R1⟩ := S0.own_at e3
      refine ⟨_, s1, .inl ⟨rfl, vs, SqL.of q1⟩, F, r, t, q.1, q.2, S0, e1, fun F' v H' E1 T1 R' => ?_⟩
      have S1 := S0.ext E1 T1
      obtain ⟨pp', vs', s1', z', q1', R1'⟩ := S1.own_at e3
      rw [s1] at s1'
      cases s1'
      rw [hq] at R'
      obtain ⟨b, us, rfl, zb, fb, qb, Rb⟩ := rep_lst R'
      have hlt' : vs'.length + us.length ≤ sizeLine := by rw [R1'.length, Rb.length, ← szL_eq]; exact hlt
      refine .inl ⟨pp, b, vs', us, rfl, rfl, q1', qb, hlt', ?_⟩
      obtain ⟨S2, k2⟩ := S1.write (ownL_at e3) s1 (vs := vs' ++ us) (ys := xs ++ ys) (by rw [List.length_append]; omega) (RepL.append R1' Rb)
      exact f F' σ _ ((E1.kp S0.pl).trans k2) S2
    · cases e4
  · rename_i ys hq
    split at e4
    · rename_i hlt
      cases e4
      obtain ⟨pp, vs, s1, z, q1, R1⟩ := S0.own_at e3
      refine ⟨_, s1, .inl ⟨rfl, vs, SqL.of q1⟩, F, r, t, q.1, q.2, S0, e1, fun F' v H' E1 T1 R' => ?_⟩
      have S1 := S0.ext E1 T1
      obtain ⟨pp', vs', s1', z', q1', R1'⟩ := S1.own_at e3
      rw [s1] at s1'
      cases s1'
      rw [hq] at R'
      obtain ⟨b, us, rfl, zb, qb, Rb⟩ := R'.top.tup
      have hlt' : vs'.length + us.length ≤ sizeLine := by rw [R1'.length, Rb.length, ← szL_eq]; exact hlt
      refine .inr ⟨pp, b, vs', us, rfl, rfl, q1', h.hK ▸ tup_sq qb, hlt', ?_⟩
      obtain ⟨S2, k2⟩ := S1.write (ownL_at e3) s1 (vs := vs' ++ us) (ys := xs ++ ys) (by rw [List.length_append]; omega) (RepL.append R1' Rb)
      exact f F' σ _ ((E1.kp S0.pl).trans k2) S2
    · cases e4
  · cases e4
theorem ss_sti (i : Nat) {n : Str} {p tp : Pos} (h1 : SE S W G x e) (hk : SE S W G y b) (hi : S.N[i]? = some n := by rfl) (hv : Vis S.sc n := by first | exact Or.inl rfl | exact Or.inr (Or.inl rfl) | exact Or.inr (Or.inr rfl)) (hd : (n == ("__debug__" : Str)) = false := by decide) (hcd : (n == ("__classdict__" : Str)) = false := by decide)
    (hs : ∀ l env, swapsWithSole [.Subscript (.Name n p) y tp] x l env = pure false := by intro _ _; rfl) (hw : ∀ env, swappedStores [.Subscript (.Name n p) y tp] x env = pure none := by intro _; rfl)
    (ha : ∀ env v, assign (.Subscript (.Name n p) y tp) env v = (do
      let ov ← holding [v] (eval (.Name n p) env)
      let iv ← holding [v, ov] (eval y env)
      standAt tp
      holding [v, ov, iv] (setItem ov iv v)
      release [v, ov, iv] []) := by intro _ _; rfl) : SS S W G wn (.Assign [.Subscript (.Name n p) y tp] x pos) (.sti i b e) := fun X h => by
  have pv : PE X (.Name n p) (tVar i) := pe_var (by rw [h.hN]; exact hi) (by rw [h.hs]; exact hv) hd hcd
  refine PS.weak (ps_asg (h1 X h).v (pg_sub pv (hk X h).o set_list (ha _)) (hs _ _) (hw _) rfl) fun D σ H q => ?_
  obtain ⟨F, r, t, o, S0, ee, f⟩ := q
  rw [ex] at ee
  obtain ⟨q, e1, e2⟩ := Option.bind_eq_some_iff.mp ee
  obtain ⟨k, e3, e4⟩ := Option.bind_eq_some_iff.mp e2
  obtain ⟨xs, e5, e6⟩ := Option.bind_eq_some_iff.mp e4
  obtain ⟨j, e7, e8⟩ := Option.map_eq_some_iff.mp e6
  cases e8
  refine ⟨F, r, t, q.1, q.2, S0, e1, fun F' v H' E1 T1 R' => ?_⟩
  have S1 := S0.ext E1 T1
  obtain ⟨pp, vs, s1, z, q1, R1⟩ := S1.own_at e5
  refine ⟨_, s1, F', r, q.2, .int k.1, k.2, S1, intO_some e3, fun F2 u H2 E2 T2 O2 => ?_⟩
  have S2 := S1.ext E2 T2
  obtain ⟨pp', vs', s1', z', q1', R1'⟩ := S2.own_at e5
  rw [s1] at s1'
  cases s1'
  refine ⟨pp, vs', k.1, j, rfl, O2.1.int, q1', by rw [R1'.length, ← ixP_eq]; exact e7, ?_⟩
  obtain ⟨S3, k3⟩ := S2.write (ownL_at e5) s1 (vs := vs'.set j v) (ys := xs.set j q.1) (by rw [List.length_set]; exact z') (RepL.set (S1.pl.rep E2 R') j R1')
  exact f F2 σ _ (((E1.trans E2).kp S0.pl).trans k3) S3

/-! one's own dicts -/
theorem ownD_at {r : Env} {i : Nat} {kvs : List (D × D)} (h : ownD r i = some kvs) : r[i]? = some (some (true, .dic kvs)) := by
  unfold ownD at h
  split at h
  · rename_i q
    cases h
    exact q
  · cases h
theorem Sim.writeD {F : Addr → Prop} {r : Env} {s : T} {σ : L2.St} {H : Hp} {i : Nat} {p : Addr} {d d1 : D} {ob : HO} (S0 : Sim W F r s σ H) (hr : r[i]? = some (some (true, d))) (hσ : σ[i]? = some (some (.ref p))) (tp : Top W F (upd H p ob) d1 (.ref p)) :
    Sim W F (r.set i (some (true, d1))) s σ (upd H p ob) ∧ Kp F H F (upd H p ob) := by
  obtain ⟨p', e', _, nf, z0, hn, n1, n2⟩ := S0.own i _ hr
  rw [hσ] at e'
  cases e'
  have kF : ∀ q, F q → upd H p ob q = H q := fun q f => upd_ne fun e : q = p => nf (e ▸ f)
  have oth : ∀ (j : Nat) (d' : D) (q : Addr), j ≠ i → r[j]? = some (some (true, d')) → σ[j]? = some (some (.ref q)) → q ≠ p := fun j d' q hj h1 h2 e => S0.dis j i d' _ p hj h1 hr (e ▸ h2) hσ
  have had : ∀ (j : Nat) (d' : D), (r.set i (some (true, d1)))[j]? = some (some (true, d')) → ∃ d'', r[j]? = some (some (true, d'')) := fun j d' h => by
    rcases set_some h with ⟨rfl, _, _⟩ | ⟨_, h⟩
    · exact ⟨_, hr⟩
    · exact ⟨_, h⟩
  refine ⟨?_, fun _ h => h, kF⟩
  exact {
    len := by rw [List.length_set]; exact S0.len
    val := fun j d h => by
      rcases set_some h with ⟨_, e, _⟩ | ⟨_, h⟩
      · cases e
      · obtain ⟨v, e1, q⟩ := S0.val j d h
        exact ⟨v, e1, Rep.mono (fun _ h => h) kF d v q⟩
    own := fun j d h => by
      rcases set_some h with ⟨rfl, e, _⟩ | ⟨nj, h⟩
      · cases e
        exact ⟨p, hσ, tp, nf, z0, by rw [upd_same]; simp, n1, n2⟩
      · obtain ⟨q, e1, tp, f1, f2, f3, f4⟩ := S0.own j d h
        have nq := oth j d q nj h e1
        refine ⟨q, e1, Top.mono (fun _ h => h) kF (fun b o eb _ hb => ?_) tp, f1, f2, by rw [upd_ne nq]; exact f3, f4⟩
        cases eb
        rw [upd_ne nq]
        exact hb
    dis := fun j k d d' q hjk h1 h2 h3 h4 => by
      obtain ⟨d1, h1⟩ := had j d h1
      obtain ⟨d2, h2⟩ := had k d' h2
      exact S0.dis j k d1 d2 q hjk h1 h2 h3 h4
    old := fun q o h m1 m2 => by rw [upd_ne (ne_of_none h z0)]; exact S0.old q o h m1 m2
    f0 := S0.f0
    f1 := S0.f1
    f2 := fun q h => by rw [kF q h]; exact S0.f2 q h
    f3 := S0.f3
    tape := S0.tape.over n1 n2 }
def rSetD (W : Wd) : V → V → V → Hp → (Hp → Prop) → Prop := fun o i v H Q => ∃ p F kvs k x, o = .ref p ∧ Dic W F H kvs p ∧ keysOk kvs k = true ∧ kvs.length < szL ∧ Rep W F H k i ∧ Rep W F H x v ∧ ∀ o' us, DO W.P W.w p o' ((dPut kvs k x).map fun q => nkD q.1) us → RepE W F H (dPut kvs k x) us → Q (upd H p (pin p o'))
theorem set_dic (hK : X.K = W.K) (hP : X.prog = W.P) (hw : X.w = W.w) (hu : X.A.units + 64 < cLine) : PSet X (rSetD W) := by
  intro pins s σ H o i v ov iv u Q I ro ri rv h
  obtain ⟨p, F, kvs, k, x, rfl, hd, hk, hz, rk, rx, q⟩ := h
  cases ro
  exact dic_set hK hP hw hu I hd hk hz rk ri rx rv fun o' us s' I' d' r' => ⟨_, I', q o' us d' r'⟩
theorem ss_dput (i : Nat) {n : Str} {p tp : Pos} (h1 : SE S W G x e) (hk : SE S W G y b) (hi : S.N[i]? = some n := by rfl) (hv : Vis S.sc n := by first | exact Or.inl rfl | exact Or.inr (Or.inl rfl) | exact Or.inr (Or.inr rfl)) (hd : (n == ("__debug__" : Str)) = false := by decide) (hcd : (n == ("__classdict__" : Str)) = false := by decide)
    (hs : ∀ l env, swapsWithSole [.Subscript (.Name n p) y tp] x l env = pure false := by intro _ _; rfl) (hw : ∀ env, swappedStores [.Subscript (.Name n p) y tp] x env = pure none := by intro _; rfl)
    (ha : ∀ env v, assign (.Subscript (.Name n p) y tp) env v = (do
      let ov ← holding [v] (eval (.Name n p) env)
      let iv ← holding [v, ov] (eval y env)
      standAt tp
      holding [v, ov, iv] (setItem ov iv v)
      release [v, ov, iv] []) := by intro _ _; rfl) : SS S W G wn (.Assign [.Subscript (.Name n p) y tp] x pos) (.dput i b e) := fun X h => by
  have pv : PE X (.Name n p) (tVar i) := pe_var (by rw [h.hN]; exact hi) (by rw [h.hs]; exact hv) hd hcd
  refine PS.weak (ps_asg (h1 X h).v (pg_sub pv (hk X h).v (set_dic h.hK h.hP h.hw h.un) (ha _)) (hs _ _) (hw _) rfl) fun D σ H q => ?_
  obtain ⟨F, r, t, o, S0, ee, f⟩ := q
  rw [ex] at ee
  obtain ⟨q, e1, e2⟩ := Option.bind_eq_some_iff.mp ee
  obtain ⟨k, e3, e4⟩ := Option.bind_eq_some_iff.mp e2
  obtain ⟨kvs, e5, e6⟩ := Option.bind_eq_some_iff.mp e4
  split at e6
  · rename_i hkz
    rw [Bool.and_eq_true, decide_eq_true_eq] at hkz
    cases e6
    refine ⟨F, r, t, q.1, q.2, S0, e1, fun F' v H' E1 T1 R' => ?_⟩
    have S1 := S0.ext E1 T1
    obtain ⟨pp, s1, _⟩ := S1.own i _ (ownD_at e5)
    refine ⟨_, s1, F', r, q.2, k.1, k.2, S1, e3, fun F2 u H2 E2 T2 R2 => ?_⟩
    have S2 := S1.ext E2 T2
    obtain ⟨pp', s1', tp', nf, _⟩ := S2.own i _ (ownD_at e5)
    rw [s1] at s1'
    cases s1'
    obtain ⟨p2, e7, hdic⟩ := tp'.dic
    cases e7
    refine ⟨pp, F2, kvs, k.1, q.1, rfl, hdic, hkz.1, hkz.2, R2, S1.pl.rep E2 R', fun o' us d' r' => ?_⟩
    have kF : ∀ a, F2 a → upd H2 pp (pin pp o') a = H2 a := fun a fa => upd_ne fun e : a = pp => nf (e ▸ fa)
    obtain ⟨S3, k3⟩ := S2.writeD (ob := pin pp o') (d1 := .dic (dPut kvs k.1 q.1)) (ownD_at e5) s1 ⟨pp, o', us, rfl, upd_same, d', RepE.mono (fun _ h => h) kF _ _ r'⟩
    exact f F2 σ _ (((E1.trans E2).kp S0.pl).trans k3) S3
  · cases e6

/-! freezing -/
theorem Sim.frz1 {F : Addr → Prop} {r : Env} {s : T} {σ : L2.St} {H : Hp} {i : Nat} {d : D} (S0 : Sim W F r s σ H) (hr : r[i]? = some (some (true, d))) : ∃ F', (∀ a, F a → F' a) ∧ Sim W F' (r.set i (some (false, d))) s σ H := by
  obtain ⟨p, e1, tp, nf, z0, hn, n1, n2⟩ := S0.own i _ hr
  refine ⟨fun b => F b ∨ b = p, fun _ h => .inl h, ?_⟩
  have mono : ∀ {d v}, Rep W F H d v → Rep W (fun b => F b ∨ b = p) H d v := fun h => Rep.mono (fun _ h => .inl h) (fun _ _ => rfl) _ _ h
  exact {
    len := by rw [List.length_set]; exact S0.len
    val := fun j d' h => by
      rcases set_some h with ⟨rfl, e, _⟩ | ⟨_, h⟩
      · cases e
        exact ⟨_, e1, tp.freeze⟩
      · obtain ⟨v, e2, q⟩ := S0.val j d' h
        exact ⟨v, e2, mono q⟩
    own := fun j d' h => by
      rcases set_some h with ⟨_, e, _⟩ | ⟨nj, h⟩
      · cases e
      · obtain ⟨q, e2, tq, f1, f2, f3, f4⟩ := S0.own j d' h
        refine ⟨q, e2, Top.mono (fun _ h => .inl h) (fun _ _ => rfl) (fun _ _ _ _ h => h) tq, ?_, f2, f3, f4⟩
        rintro (z | rfl)
        · exact f1 z
        · exact S0.dis j i d' d q nj h hr e2 e1
    dis := fun j k d1 d2 q hjk h1 h2 h3 h4 => by
      rcases set_some h1 with ⟨_, e, _⟩ | ⟨_, h1⟩
      · cases e
      · rcases set_some h2 with ⟨_, e, _⟩ | ⟨_, h2⟩
        · cases e
        · exact S0.dis j k d1 d2 q hjk h1 h2 h3 h4
    old := S0.old
    f0 := fun q h => .inl (S0.f0 q h)
    f1 := fun q h => by
      rcases h with h | rfl
      · exact S0.f1 q h
      · exact .inr z0
    f2 := fun q h => by
      rcases h with h | rfl
      · exact S0.f2 q h
      · exact hn
    f3 := ⟨fun h => by
      rcases h with h | h
      · exact S0.f3.1 h
      · exact n1 h.symm, fun h => by
      rcases h with h | h
      · exact S0.f3.2 h
      · exact n2 h.symm⟩
    tape := S0.tape }
theorem Sim.frz {s : T} {σ : L2.St} {H : Hp} : ∀ (is : List Nat) {F : Addr → Prop} {r : Env}, Sim W F r s σ H → ∃ F', (∀ a, F a → F' a) ∧ Sim W F' (frz is r) s σ H
  | [], F, r, S0 => ⟨F, fun _ h => h, S0⟩
  | i :: is, F, r, S0 => by
    unfold Ip.frz
    split
    · rename_i d hr
      obtain ⟨F1, k1, S1⟩ := S0.frz1 hr
      obtain ⟨F2, k2, S2⟩ := Sim.frz is S1
      exact ⟨F2, fun a h => k2 a (k1 a h), S2⟩
    · exact Sim.frz is S0
theorem ss_fz (is : List Nat) (h1 : SS S W G wn st u) : SS S W G wn st (.fz is u) := fun X h => PS.weak (h1 X h) fun D σ H q => by
  obtain ⟨F, r, t, o, S0, ee, f⟩ := q
  rw [ex] at ee
  obtain ⟨F1, k1, S1⟩ := S0.frz is
  exact ⟨F1, _, t, o, S1, ee, f.kp ⟨k1, fun _ _ => rfl⟩⟩
end
end Ip

/-! IpU: dicts as values: {}, displays, comprehensions, .get. -/
namespace Ip
open PySem PySem.Spec PyProof.Rows L2
section
variable {S : Sc} {W : Wd} {G : Gl} {X : Cx} {x y z tg : Expr} {a b c e : E} {pos : Pos}
theorem mk_dct {es : List E} : Mk G (.dct es) := fun r => ⟨_, by rw [ev]⟩
theorem mk_dc {own : List Nat} {t : Tg} {k : Ik} {es cs : List E} {ek : E} : Mk G (.dc own t k es cs ek e) := fun r => ⟨_, by rw [ev]⟩
theorem mk_me {m : Me} {es : List E} : Mk G (.me m a es) := fun r => ⟨_, by rw [ev]⟩
/-! ### {} -/
def tDNew (W : Wd) : TE := fun _ H Q => ∀ p o, H p = none → DO W.P W.w p o [] [] → Q (.ref p) (upd H p (pin p o))
theorem pe_dnew : PE X (.Dict [] [] pos) (tDNew W) := ⟨fun pins s σ H Q I h => by
  obtain ⟨n1, n2⟩ := dic_new (W := W) (P := X.prog) (w := X.w) (H := upd H s.heap.objs.size (pin s.heap.objs.size { cls := .type "dict", data := .dict #[] })) s.heap I.big
  exact wpAny_Dict_empty ⟨.ref s.heap.objs.size, _, I.laid (a := s.heap.objs.size) (o := pin s.heap.objs.size { cls := .type "dict", data := .dict #[] }) (t' := s.toks) (fun _ _ q => Heap.get?_push_of_some _ q) (Nat.le_refl _) n1, rfl, h _ _ (I.hok.fresh (Nat.le_refl _)) n2⟩⟩
theorem sf_dnew : SF S W G (.Dict [] [] pos) (.dct []) := fun X h => by
  refine PE.weak (pe_dnew (W := W)) fun σ H Q q => ?_
  obtain ⟨F, r, s, d, s', S0, ee, k⟩ := q
  rw [ev] at ee
  have ee' : (evs G [] r s).bind (fun p => (pairUp p.1).bind fun ps => (dPuts [] ps).map fun kvs => (D.dic kvs, p.2)) = some (d, s') := ee
  rw [evs] at ee'
  cases ee'
  intro p o hp ho
  exact own_laid S0.pl (Ext.refl S0.f2) S0.tape (show New W F H (.dic []) (.ref p) (upd H p (pin p o)) from .inr ⟨p, _, rfl, hp, rfl, o, [], upd_same, ho, rfl⟩) k
theorem se_dnew : SE S W G (.Dict [] [] pos) (.dct []) := SF.se (fun _ _ => rfl) mk_dct sf_dnew

/-! ### .get -/
structure G1 (x : Expr) (apos : Pos) (y : Expr) (cpos : Pos) : Prop where
  base : ∀ env, attributeBase x "get" env (eval x env) = eval x env := by intro _; rfl
  few : ∀ env, ((backTo cpos (starEach [y] env)).all (fun x => !x.1) && (backToKw cpos (keywordEach [] env)).all (fun x => x.1.isSome)
    && decide (([y] : List Expr).length + ([] : List Keyword).length + (if ([] : List Keyword).isEmpty then 0 else 1) < 30)) = true := by intro _; rfl
  line : (apos.endLine == cpos.line) = true := by rfl
  trees : ∀ env, backTo cpos (starEach [y] env) = [(false, eval y env)] := by intro _; rfl
structure G2 (x : Expr) (apos : Pos) (y z : Expr) (cpos : Pos) : Prop where
  base : ∀ env, attributeBase x "get" env (eval x env) = eval x env := by intro _; rfl
  few : ∀ env, ((backTo cpos (starEach [y, z] env)).all (fun x => !x.1) && (backToKw cpos (keywordEach [] env)).all (fun x => x.1.isSome)
    && decide (([y, z] : List Expr).length + ([] : List Keyword).length + (if ([] : List Keyword).isEmpty then 0 else 1) < 30)) = true := by intro _; rfl
  line : (apos.endLine == cpos.line) = true := by rfl
  trees : ∀ env, backTo cpos (starEach [y, z] env) = [(false, eval y env), (false, eval z env)] := by intro _; rfl
theorem Dic.ext {F F' : Addr → Prop} {H H' : Hp} {s : T} {kvs : List (D × D)} {p : Addr} (P : Pl W F H s) (E1 : Ext W F H F' H') (h : Dic W F H kvs p) (n : p ≠ W.ba ∧ p ≠ W.ca) : Dic W F' H' kvs p := by
  obtain ⟨o, us, h1, h2, h3⟩ := h
  exact ⟨o, us, E1.keep p _ h1 n.1 n.2, h2, RepE.mono E1.mono (E1.frozen P.f2 P.f3) kvs us h3⟩
theorem meD_get1 {d k r : D} (h : meD .get d [k] = some r) : ∃ kvs, d = .dic kvs ∧ keysOk kvs k = true ∧ r = (dGet kvs k).getD .non := by
  cases d <;> simp only [meD] at h <;> try cases h
  rename_i kvs
  split at h
  · cases h; exact ⟨_, rfl, by assumption, rfl⟩
  · cases h
theorem meD_get2 {d k v r : D} (h : meD .get d [k, v] = some r) : ∃ kvs, d = .dic kvs ∧ keysOk kvs k = true ∧ r = (dGet kvs k).getD v := by
  cases d <;> simp only [meD] at h <;> try cases h
  rename_i kvs
  split at h
  · cases h; exact ⟨_, rfl, by assumption, rfl⟩
  · cases h
theorem se_get1 {apos cpos : Pos} {m : Str} (ha : SE S W G x a) (hb : SE S W G y b) (hm : m = "get" := by rfl) (g : G1 x apos y cpos := by exact {}) : SE S W G (.Call (.Attribute x m apos) [y] [] cpos) (.me .get a [b]) := fun X h => by
  subst hm
  refine SEx.of_V (fun _ _ => rfl) h mk_me ⟨fun pins s σ H Q I q => ?_⟩
  obtain ⟨F, r, t, d, t', S0, ee, k⟩ := q
  rw [ev] at ee
  have ee' : ((ev G a r).o t).bind (fun p => (evs G [b] r p.2).bind fun q => (meD .get p.1 q.1).map fun d => (d, q.2)) = some (d, t') := ee
  obtain ⟨p, e1, e2⟩ := Option.bind_eq_some_iff.mp ee'
  obtain ⟨q, e3, e4⟩ := Option.bind_eq_some_iff.mp e2
  obtain ⟨v, e5, e6⟩ := Option.map_eq_some_iff.mp e4
  cases e6
  obtain ⟨kd, e7, e8⟩ := evs_one (ds := q.1) (s' := q.2) e3
  rw [e7] at e5
  obtain ⟨kvs, e9, hk, rfl⟩ := meD_get1 e5
  refine wpAny_Call_method (g.base _) (g.few _) g.line PySem.F.plainAttrs_dict PySem.F.slot_dict_get PySem.F.type_dict_get (thn ((ha X h).o.run pins s σ H (fun v H' => ∃ p1 F', v = .ref p1 ∧ Ext W F H F' H' ∧ Tp W p.2 H' ∧ Dic W F' H' kvs p1 ∧ (p1 ≠ W.ba ∧ p1 ≠ W.ca)) I ⟨F, r, t, p.1, p.2, S0, e1, fun F' v H' E1 T1 O1 => ?_⟩) fun u s1 ⟨xv, H1, I1, rx, p1, F1, ex, E1, T1, d1, n1⟩ => ?_)
  · rw [e9] at O1
    obtain ⟨p1, ep, hd⟩ := O1.1.dic
    exact ⟨p1, F', ep, E1, T1, hd, O1.2 p1 ep rfl⟩
  subst ex
  obtain rfl : u = Value.ref p1 := rx
  refine ⟨d1.typeIs I1, d1.noDict I1, ?_⟩
  rw [g.trees]
  have S1 := S0.ext E1 T1
  refine Calls.callWith_builtin rfl (Calls.evalArgs_plain (Calls.spliced_cons (thn ((hb X h).v.run pins s1 σ H1 (fun yv H2 => ∃ F2, Ext W F1 H1 F2 H2 ∧ Tp W q.2 H2 ∧ Rep W F2 H2 kd yv) I1 ⟨F1, r, p.2, kd, q.2, S1, e8, fun F2 v H2 E2 T2 R2 => ⟨F2, E2, T2, R2⟩⟩) fun iv s2 ⟨yv, H2, I2, ry, F2, E2, T2, R2⟩ => Calls.spliced_nil ?_)))
  exact dic_get1 h.hK h.hP h.hw h.un I2 (d1.ext S1.pl E2 n1) hk R2 ry fun v w' s3 I3 rv rw' => ⟨v, H2, I3, rw', k F2 v H2 (E1.trans E2) T2 rv⟩
theorem se_get2 {apos cpos : Pos} {m : Str} (ha : SE S W G x a) (hb : SE S W G y b) (hc : SE S W G z c) (hm : m = "get" := by rfl) (g : G2 x apos y z cpos := by exact {}) : SE S W G (.Call (.Attribute x m apos) [y, z] [] cpos) (.me .get a [b, c]) := fun X h => by
  subst hm
  refine SEx.of_V (fun _ _ => rfl) h mk_me ⟨fun pins s σ H Q I q => ?_⟩
  obtain ⟨F, r, t, d, t', S0, ee, k⟩ := q
  rw [ev] at ee
  have ee' : ((ev G a r).o t).bind (fun p => (evs G [b, c] r p.2).bind fun q => (meD .get p.1 q.1).map fun d => (d, q.2)) = some (d, t') := ee
  obtain ⟨p, e1, e2⟩ := Option.bind_eq_some_iff.mp ee'
  obtain ⟨q, e3, e4⟩ := Option.bind_eq_some_iff.mp e2
  obtain ⟨v, e5, e6⟩ := Option.map_eq_some_iff.mp e4
  cases e6
  rw [evs] at e3
  obtain ⟨⟨kd, t1⟩, e7, e8⟩ := Option.bind_eq_some_iff.mp e3
  obtain ⟨⟨ds, t2⟩, e10, e11⟩ := Option.map_eq_some_iff.mp e8
  cases e11
  obtain ⟨xd, e12, e13⟩ := evs_one e10
  subst e12
  obtain ⟨kvs, e9, hk, rfl⟩ := meD_get2 e5
  refine wpAny_Call_method (g.base _) (g.few _) g.line PySem.F.plainAttrs_dict PySem.F.slot_dict_get PySem.F.type_dict_get (thn ((ha X h).o.run pins s σ H (fun v H' => ∃ p1 F', v = .ref p1 ∧ Ext W F H F' H' ∧ Tp W p.2 H' ∧ Dic W F' H' kvs p1 ∧ (p1 ≠ W.ba ∧ p1 ≠ W.ca)) I ⟨F, r, t, p.1, p.2, S0, e1, fun F' v H' E1 T1 O1 => ?_⟩) fun u s1 ⟨xv, H1, I1, rx, p1, F1, ex, E1, T1, d1, n1⟩ => ?_)
  · rw [e9] at O1
    obtain ⟨p1, ep, hd⟩ := O1.1.dic
    exact ⟨p1, F', ep, E1, T1, hd, O1.2 p1 ep rfl⟩
  subst ex
  obtain rfl : u = Value.ref p1 := rx
  refine ⟨d1.typeIs I1, d1.noDict I1, ?_⟩
  rw [g.trees]
  have S1 := S0.ext E1 T1
  refine Calls.callWith_builtin rfl (Calls.evalArgs_plain (Calls.spliced_cons (thn ((hb X h).v.run pins s1 σ H1 (fun yv H2 => ∃ F2, Ext W F1 H1 F2 H2 ∧ Tp W t1 H2 ∧ Rep W F2 H2 kd yv) I1 ⟨F1, r, p.2, kd, t1, S1, e7, fun F2 v H2 E2 T2 R2 => ⟨F2, E2, T2, R2⟩⟩) fun iv s2 ⟨yv, H2, I2, ry, F2, E2, T2, R2⟩ => ?_)))
  have S2 := S1.ext E2 T2
  refine Calls.spliced_cons (thn ((hc X h).v.run pins s2 σ H2 (fun zv H3 => ∃ F3, Ext W F2 H2 F3 H3 ∧ Tp W t2 H3 ∧ Rep W F3 H3 xd zv) I2 ⟨F2, r, t1, xd, t2, S2, e13, fun F3 v H3 E3 T3 R3 => ⟨F3, E3, T3, R3⟩⟩) fun fv s3 ⟨zv, H3, I3, rz, F3, E3, T3, R3⟩ => Calls.spliced_nil ?_)
  exact dic_get2 h.hK h.hP h.hw h.un I3 ((d1.ext S1.pl E2 n1).ext S2.pl E3 n1) hk (S2.pl.rep E3 R2) ry R3 rz fun v w' s4 I4 rv rw' => ⟨v, H3, I4, rw', k F3 v H3 ((E1.trans E2).trans E3) T3 rv⟩
end

/-! ### a dict written -/
section
variable {W : Wd} {F : Addr → Prop} {H : Hp} {X : Cx} {pins : List (Addr × Obj)} {σ : L2.St} {s : Shared} {kvs : List (D × D)} {a : Addr} {k v : D} {x y : V} {u r : Value} {A : Around} {E : Value → Shared → Prop}
theorem dic_dset {Q : Unit → Shared → Prop} (hK : X.K = W.K) (hP : X.prog = W.P) (hw : X.w = W.w) (hu : A.units + 64 < cLine) (I : Inv X pins σ H s) (h : Dic W F H kvs a) (hk : keysOk kvs k = true) (hz : kvs.length < szL) (rk : Rep W F H k y) (ry : RelV y u) (rx : Rep W F H v x) (rr : RelV x r)
    (q : ∀ o' us' s', Inv X pins σ (upd H a (pin a o')) s' → DO W.P W.w a o' ((dPut kvs k v).map fun p => nkD p.1) us' → RepE W F H (dPut kvs k v) us' → Q () s') : wpAny (model X.prog X.w) A (dictSet a u r) Q E s := by
  obtain ⟨o, us, h1, h2, h3⟩ := h
  have e1 := pin_of I h1
  have hd := h2.1
  unfold keysOk at hk
  rw [Bool.or_eq_true, Bool.and_eq_true, Bool.and_eq_true] at hk
  have wr : ∀ (h' : Heap) (o' : Obj) (t : Nat), h'.get? a = some o' → Heap.SameBut a s.heap h' → Inv X pins σ (upd H a (pin a o')) { s with heap := h', toks := t } := fun h' o' t he hs =>
    I.write (x := a) (e := a) (by rw [h1]; exact True.intro) (.inl rfl) (fun b q hb z => (hs.2 b hb).trans z) ⟨o', he⟩ ⟨he, ⟨o', he⟩, fun h1 h2 p st => st _ p⟩
  have hl : us.length = kvs.length := h3.length
  have sz : sizeLine = szL := szL_eq.symm
  have hu8 : (nestedKind X.prog X.w).room A := by show A.units + 8 < cLine; omega
  rcases hk with ⟨k1, k2⟩ | ⟨k1, k2⟩
  · obtain ⟨es, rfl, arr, ep, vs, x1, x2, x3, x4, x5, x6⟩ := h2.leaf k2 h3
    rw [List.length_map] at hl
    have hvs := x6.length
    refine wpAny_dictSet_pairs (knd := mixKind X.prog X.w) (k := keyD k) (kvs := vs) (hsz := by omega) (kV_is (by rw [← rep_key k1 rk]; exact ry)) ⟨o, arr, ep, e1, x1, x2, by rw [hP, hw]; exact x3, by rw [hP, hw]; exact x4, x5⟩ fun h' dd' hs => ?_
    obtain ⟨o', arr', ep', g1, g2, g3, g4, g5, g6⟩ := dd'
    rw [hP, hw] at g4 g5
    refine q o' _ _ (wr h' o' _ g1 hs) ⟨hd, ?_, .inl ⟨putK es (keyD k) x, rfl, arr', ep', _, g2, g3, g4, g5, g6, x6.put _ rr⟩⟩ (leaf_put k1 k2 h3 rk rx)
    rw [List.length_map]
    have := putK_len (x := x) es (keyD k)
    omega
  · obtain ⟨es, rfl, hks, arr, ep, ys, x1, x2, x3, x4, x5⟩ := h2.tups k2 h3
    rw [List.length_map] at hl
    have hys := Paired.length x5
    obtain ⟨b, rfl, rfl, nk⟩ := nested_key_of hK I k1 rk ry
    have hDH : s.heap.DictOfH (nestedKind X.prog X.w) a ys := by
      refine ⟨o, arr, ep, e1, x1, x2, by rw [hP, hw]; exact x3, ?_, x4⟩
      exact tups_stand hK I k2 hks h3 x5
    refine wpAny_dictSet_heap (hsz := by omega) hu8 nk hDH fun h' dd' hs => ?_
    obtain ⟨o', arr', ep', g1, g2, g3, g4, _, g6⟩ := dd'
    rw [hP, hw] at g4
    obtain ⟨p1, p2⟩ := tup_put (x := x) k1 k2 hks h3 rk rx
    refine q o' _ _ (wr h' o' _ g1 hs) ⟨hd, ?_, .inr ⟨putT es (nkD k) b x, rfl, p2, arr', ep', _, g2, g3, g4, g6, putT_pair rr x5⟩⟩ p1
    rw [List.length_map]
    have := putT_len (x := x) es (nkD k) b
    omega
/-- pairs stored one behind the other -/
theorem dic_puts {Q : PUnit → Shared → Prop} (hK : X.K = W.K) (hP : X.prog = W.P) (hw : X.w = W.w) (hu : A.units + 64 < cLine) (nF : ¬ F a) : ∀ (more : List (D × D)) {ps : List (V × V)} {ws : List (Value × Value)} {kvs kvs' : List (D × D)} {H : Hp} {s : Shared}, Inv X pins σ H s → Dic W F H kvs a → dPuts kvs more = some kvs' →
    RepE W F H more ps → VV ps ws → (∀ o' s', Inv X pins σ (upd H a (pin a o')) s' → Dic W F (upd H a (pin a o')) kvs' a → Q ⟨⟩ s') → wpAny (model X.prog X.w) A (storeAll a ws) Q E s
  | [], ps, ws, kvs, kvs', H, s, I, d, e, rm, rv, q => by
    simp only [RepE] at rm
    subst rm
    cases rv
    cases e
    obtain ⟨o, us, h1, h2, h3⟩ := d
    have e1 := pin_of I h1
    have eu : upd H a (pin a o) = H := by
      funext b
      by_cases c : b = a
      · subst c; rw [upd_same, h1]
      · rw [upd_ne c]
    exact wpAny_pure (q o s (by rw [eu]; exact I) (by rw [eu]; exact ⟨o, us, h1, h2, h3⟩))
  | (k, v) :: more, ps, ws, kvs, kvs', H, s, I, d, e, rm, rv, q => by
    simp only [RepE] at rm
    obtain ⟨⟨y, x⟩, ps', rfl, r1, r2⟩ := rm
    simp only [RepP] at r1
    cases rv with
    | @cons _ b _ ws' h t =>
    obtain ⟨u, w⟩ := b
    simp only [dPuts] at e
    split at e
    · rename_i hc
      rw [Bool.and_eq_true, decide_eq_true_eq] at hc
      unfold storeAll
      rw [List.forIn_cons]
      refine wpAny_bind (wpAny_bind (dic_dset hK hP hw hu I d hc.1 hc.2 r1.1 h.1 r1.2 h.2 fun o' us' s' I' d' r' => wpAny_pure ?_))
      have kF : ∀ b, F b → upd H a (pin a o') b = H b := fun b fb => upd_ne fun e : b = a => nF (e ▸ fb)
      refine dic_puts hK hP hw hu nF more I' ⟨o', us', upd_same, d', RepE.mono (fun _ h => h) kF _ _ r'⟩ e (RepE.mono (fun _ h => h) kF _ _ r2) t fun o2 s2 I2 d2 => ?_
      rw [upd_upd] at I2 d2
      exact q o2 s2 I2 d2
    · cases e
end

/-! ### {k: v, ..} -/
section
variable {S : Sc} {W : Wd} {G : Gl} {X : Cx} {x y z tg : Expr} {a b c e : E} {pos : Pos}
def SPs (S : Sc) (W : Wd) (G : Gl) (pos : Pos) (ks : List (Option Expr)) (vs : List Expr) (es : List E) : Prop := ∀ X, Std S W G X → ∀ (pins : List (Addr × Obj)) (s : Shared) (σ : L2.St) (H : Hp) (Q : List (V × V) → Hp → Prop), Inv X pins σ H s →
  (∃ F r t ds t', Sim W F r t σ H ∧ evs G es r t = some (ds, t') ∧ ∀ F' ps H', Ext W F H F' H' → Tp W t' H' → (∃ kvs, pairUp ds = some kvs ∧ RepE W F' H' kvs ps) → Q ps H') →
  wpAny (model X.prog X.w) X.A (evalPairs (pairTrees ks vs X.env pos)) (fun ws s' => ∃ ps H', Inv X pins σ H' s' ∧ VV ps ws ∧ Q ps H') X.xe s
theorem sp_nil : SPs S W G pos [] [] [] := fun X h pins s σ H Q I q => by
  obtain ⟨F, r, t, ds, t', S0, ee, k⟩ := q
  rw [evs] at ee
  cases ee
  exact pairTrees_nil_walk ⟨[], H, I, .nil, k F [] H (Ext.refl S0.f2) S0.tape ⟨[], rfl, rfl⟩⟩
theorem sp_cons {ks : List (Option Expr)} {vs : List Expr} {es : List E} (ha : SE S W G x a) (hb : SE S W G y b) (hr : SPs S W G pos ks vs es) : SPs S W G pos (some x :: ks) (y :: vs) (a :: b :: es) := fun X h pins s σ H Q I q => by
  obtain ⟨F, r, t, ds, t', S0, ee, k⟩ := q
  rw [evs] at ee
  obtain ⟨⟨d1, t1⟩, e1, e2⟩ := Option.bind_eq_some_iff.mp ee
  obtain ⟨⟨ds1, t1'⟩, e3, e4⟩ := Option.map_eq_some_iff.mp e2
  cases e4
  rw [evs] at e3
  obtain ⟨⟨d2, t2⟩, e5, e6⟩ := Option.bind_eq_some_iff.mp e3
  obtain ⟨⟨ds2, t3⟩, e7, e8⟩ := Option.map_eq_some_iff.mp e6
  cases e8
  refine pairTrees_cons_walk (thn ((ha X h).v.run pins s σ H (fun v H1 => ∃ F1, Ext W F H F1 H1 ∧ Tp W t1 H1 ∧ Rep W F1 H1 d1 v) I ⟨F, r, t, d1, t1, S0, e1, fun F1 v H1 E1 T1 R1 => ⟨F1, E1, T1, R1⟩⟩) fun u s1 ⟨xv, H1, I1, rx, F1, E1, T1, R1⟩ => ?_)
  have S1 := S0.ext E1 T1
  refine thn ((hb X h).v.run pins s1 σ H1 (fun v H2 => ∃ F2, Ext W F1 H1 F2 H2 ∧ Tp W t2 H2 ∧ Rep W F2 H2 d2 v) I1 ⟨F1, r, t1, d2, t2, S1, e5, fun F2 v H2 E2 T2 R2 => ⟨F2, E2, T2, R2⟩⟩) fun w s2 ⟨yv, H2, I2, ry, F2, E2, T2, R2⟩ => ?_
  have S2 := S1.ext E2 T2
  refine thn (hr X h pins s2 σ H2 (fun ps H3 => ∃ F3, Ext W F2 H2 F3 H3 ∧ Tp W t3 H3 ∧ ∃ kvs, pairUp ds2 = some kvs ∧ RepE W F3 H3 kvs ps) I2 ⟨F2, r, t2, ds2, t3, S2, e7, fun F3 ps H3 E3 T3 R3 => ⟨F3, E3, T3, R3⟩⟩) fun ws s3 ⟨ps, H3, I3, rel, F3, E3, T3, kvs, R3, R4⟩ => ?_
  refine ⟨(xv, yv) :: ps, H3, I3, .cons ⟨rx, ry⟩ rel, k F3 _ H3 ((E1.trans E2).trans E3) T3 ⟨(d1, d2) :: kvs, by rw [pairUp, R3]; rfl, ?_⟩⟩
  simp only [RepE]
  refine ⟨_, _, rfl, ?_, R4⟩
  simp only [RepP]
  exact ⟨S2.pl.rep E3 (S1.pl.rep E2 R1), S2.pl.rep E3 R2⟩
theorem sf_dct {ks : List (Option Expr)} {vs : List Expr} {es : List E} (hp : SPs S W G pos ks vs es) (hall : ks.all (·.isSome) = true := by rfl) (hl : ks.length = vs.length := by rfl) (h0 : ks ≠ [] := by exact List.cons_ne_nil _ _) (h15 : ks.length ≤ 15 := by decide) : SF S W G (.Dict ks vs pos) (.dct es) := fun X h => ⟨fun pins s σ H Q I q => by
  obtain ⟨F, r, t, d, t', S0, ee, k⟩ := q
  rw [ev] at ee
  have ee' : (evs G es r t).bind (fun p => (pairUp p.1).bind fun ps => (dPuts [] ps).map fun kvs => (D.dic kvs, p.2)) = some (d, t') := ee
  obtain ⟨⟨ds, t1⟩, e1, e2⟩ := Option.bind_eq_some_iff.mp ee'
  obtain ⟨ps, e3, e4⟩ := Option.bind_eq_some_iff.mp e2
  obtain ⟨kvs', e5, e6⟩ := Option.map_eq_some_iff.mp e4
  cases e6
  obtain ⟨n1, n2⟩ := dic_new (W := W) (P := X.prog) (w := X.w) (H := upd H s.heap.objs.size (pin s.heap.objs.size { cls := .type "dict", data := .dict #[] })) s.heap I.big
  have hn := I.hok.fresh (Nat.le_refl s.heap.objs.size)
  have I1 := I.laid (a := s.heap.objs.size) (o := pin s.heap.objs.size { cls := .type "dict", data := .dict #[] }) (h' := s.heap.push { cls := .type "dict", data := .dict #[] }) (t' := s.toks) (fun _ _ q => Heap.get?_push_of_some _ q) (Nat.le_refl _) n1
  generalize hp0 : s.heap.objs.size = p0 at hn I1 n1 n2
  have X1 : Ext W F H F (upd H p0 (pin p0 { cls := .type "dict", data := .dict #[] })) := Ext.laid S0.f2 hn
  have S1 := S0.ext X1 (S0.tape.laid hn)
  have nb1 : p0 ≠ W.ba := fun z => S0.tape.ba_some (z ▸ hn)
  have nb2 : p0 ≠ W.ca := fun z => S0.tape.ca_some (z ▸ hn)
  refine wpAny_Dict_any hall hl h0 h15 ?_
  rw [hp0]
  refine thn (hp X h pins _ σ _ (fun ps1 H2 => ∃ F2, Ext W F (upd H p0 (pin p0 { cls := .type "dict", data := .dict #[] })) F2 H2 ∧ Tp W t1 H2 ∧ ∃ kvs, pairUp ds = some kvs ∧ RepE W F2 H2 kvs ps1) I1 ⟨F, r, t, ds, t1, S1, e1, fun F2 ps1 H2 E2 T2 R2 => ⟨F2, E2, T2, R2⟩⟩) fun ws s2 ⟨ps1, H2, I2, rel, F2, E2, T2, kv2, R2, R3⟩ => ?_
  rw [e3] at R2
  cases R2
  have hp2 := E2.keep p0 _ upd_same nb1 nb2
  have nF : ¬ F2 p0 := fun z => by
    rcases E2.new _ z with z | z
    · exact S0.f2 _ z hn
    · rw [upd_same] at z; cases z
  refine dic_puts h.hK h.hP h.hw h.un nF ps I2 (show Dic W F2 H2 [] p0 from ⟨_, [], hp2, n2, rfl⟩) e5 R3 rel fun o' s' I' d' => ⟨.ref p0, _, I', rfl, ?_⟩
  refine k F2 _ _ ((X1.trans E2).over hn) (T2.over nb1 nb2) ?_
  unfold Own
  rw [if_pos (show isMut (.dic kvs') = true from rfl)]
  obtain ⟨o2, us2, g1, g2, g3⟩ := d'
  exact ⟨p0, rfl, hn, nF, by rw [upd_same]; simp, p0, o2, us2, rfl, g1, g2, g3⟩⟩
theorem se_dct {ks : List (Option Expr)} {vs : List Expr} {es : List E} (hp : SPs S W G pos ks vs es) (hall : ks.all (·.isSome) = true := by rfl) (hl : ks.length = vs.length := by rfl) (h0 : ks ≠ [] := by exact List.cons_ne_nil _ _) (h15 : ks.length ≤ 15 := by decide) : SE S W G (.Dict ks vs pos) (.dct es) := SF.se (fun _ _ => rfl) mk_dct (sf_dct hp hall hl h0 h15)
end
end Ip

/-! IpV: dict comprehensions. -/
namespace Ip
open PySem PySem.Spec PyProof.Rows L2
section
variable {W : Wd} {X : Cx} {pins : List (Addr × Obj)} {σ : L2.St} {H : Hp} {s : Shared}
/-- a dict of numbers and texts, seen as this very object -/
theorem pinK {p : Addr} {es : List (Key × V)} (I : Inv X pins σ H s) (h : H p = some (.dK es)) : ∃ o, Inv X pins σ (upd H p (pin p o)) s ∧ DLf X.prog X.w o es ∧ (p == sysModules) = false ∧ es.length ≤ sizeLine := by
  obtain ⟨z, hd, vs, rel, o, arr, ep, g1, g2, g3, g4, g5, g6⟩ := dk_of I.hok h
  exact ⟨o, I.write (x := p) (e := p) (h' := s.heap) (t' := s.toks) (by rw [h]; exact True.intro) (.inl rfl) (fun _ _ _ z => z) ⟨o, g1⟩ ⟨g1, ⟨o, g1⟩, fun h1 h2 p st => st _ p⟩, ⟨arr, ep, vs, g2, g3, g4, g5, g6, rel⟩, hd, z⟩
/-- the continuation behind a dict of numbers and texts that is then seen as an object -/
def pinQ (X : Cx) (Q : VK) : VK := fun v H' => ∃ p es, v = .ref p ∧ H' p = some (.dK es) ∧ ∀ o, DLf X.prog X.w o es → (p == sysModules) = false → es.length ≤ sizeLine → Q v (upd H' p (pin p o))
theorem PE.pinned {x : Expr} {t : TE} (h : PE X x t) : PE X x (fun σ H Q => t σ H (pinQ X Q)) := ⟨fun pins s σ H Q I q =>
  thn (h.run pins s σ H _ I q) fun u s1 ⟨v, H1, I1, r1, p, es, e1, e2, k⟩ => by
    obtain ⟨o, I2, d, m, z⟩ := pinK I1 e2
    exact ⟨v, _, I2, r1, k o d m z⟩⟩
end
section
variable {J : It} {n : Nat} {G : Hp → Prop} {Y : Nat → Hp → V → Hp → Prop}
/-- a dict comprehension over it: Pv by the turn and the heap (the new dict at D within) -/
theorem dc_it (w : Walk J n G Y) {g : TG} {tt : TT} {tk tv : TE} {vs : List Nat} {σ : L2.St} {H1 : Hp} {D : Addr} {Qd : Hp → Prop} (Pv : Nat → Hp → Prop) (h0 : Pv 0 (upd H1 D (.dK []))) (hG : ∀ i H, i ≤ n → Pv i H → G H)
    (hs : ∀ i x H H', i < n → Pv i H → Y i H x H' → g x (wipe σ vs) H' fun σ2 H2 => wipe σ2 vs = wipe σ vs ∧ tt σ2 H2 fun b H3 =>
      if b = true then tk σ2 H3 fun y H4 => tv σ2 H4 fun z H5 => ∃ kvs k, y = kV k ∧ H5 D = some (.dK kvs) ∧ kvs.length < sizeLine ∧ Pv (i + 1) (upd H5 D (.dK (putK kvs k z))) else Pv (i + 1) H3) (hd : ∀ H, Pv n H → Qd H) :
    ∃ W : Nat → Nat → Hp → Prop, (∃ m, W 0 m (upd H1 D (.dK []))) ∧ ∀ i m H, W i m H →
      (J.stop i H ∧ Qd H) ∨ (J.go i H ∧ ∃ Nx : Hp → Prop, (∀ H', Nx H' → ∃ m', m' < m ∧ W (i + 1) m' H') ∧ ∀ x H', J.yld i H x H' → g x (wipe σ vs) H' fun σ2 H2 => wipe σ2 vs = wipe σ vs ∧ tt σ2 H2 fun b H3 =>
        if b = true then tk σ2 H3 fun y H4 => tv σ2 H4 fun z H5 => ∃ kvs k, y = kV k ∧ H5 D = some (.dK kvs) ∧ kvs.length < sizeLine ∧ Nx (upd H5 D (.dK (putK kvs k z))) else Nx H3) := by
  refine ⟨fun i m H => m + i = n ∧ Pv i H, ⟨n, rfl, h0⟩, fun i m H hW => ?_⟩
  obtain ⟨hm, p⟩ := hW
  have q := hG i H (by omega) p
  by_cases hlt : i < n
  · exact .inr ⟨w.goes i H hlt q, Pv (i + 1), fun H' p' => ⟨n - (i + 1), by omega, by omega, p'⟩, fun x H' y => hs i x H H' hlt p (w.yields i H x H' hlt q y)⟩
  · obtain rfl : i = n := by omega
    exact .inl ⟨w.stops H q, hd H p⟩
end
section
variable {S : Sc} {W : Wd} {G : Gl} {X : Cx} {x y z tg : Expr} {a b c e ek : E} {pos : Pos}
theorem keys_put {kvs : List (D × D)} {k v : D} (h : (kvs.all fun p => isKey p.1) = true) (hk : isKey k = true) : ((dPut kvs k v).all fun p => isKey p.1) = true := by
  unfold dPut
  split
  · rw [List.all_eq_true] at h ⊢
    intro p hp
    obtain ⟨q, hq, rfl⟩ := List.mem_map.mp hp
    split
    · exact h q hq
    · exact h q hq
  · rw [List.all_append, h]
    simp [hk]
theorem dc_weak {wi : TI} {k : Ik} {es cs : List E} {t : Tg} {own : List Nat} {σ : L2.St} {H : Hp} {Q : VK} (hP : X.prog = W.P) (hw' : X.w = W.w) (hv : ∀ i ∈ tgV t, i ∈ own) (hw : wi = iO W G k es) (q : gF W G (.dc own t k es cs ek e) σ H Q) : tDc wi (gG W t) (gTs W G cs) (gV W G ek) (gV W G e) own σ H (pinQ X Q) := by
  subst hw
  obtain ⟨F, r, s, d, s', S0, ee, kk⟩ := q
  rw [ev] at ee
  obtain ⟨p, e1, e2⟩ := Option.bind_eq_some_iff.mp ee
  obtain ⟨xs, e3, e4⟩ := Option.bind_eq_some_iff.mp e2
  obtain ⟨qq, e5, e6⟩ := Option.map_eq_some_iff.mp e4
  cases e6
  refine ⟨F, r, s, p.1, p.2, xs, S0, e1, e3, fun F1 H1 J L E1 T1 w1 => fun A hA => ?_⟩
  have nA1 : A ≠ W.ba := fun z => T1.ba_some (z ▸ hA)
  have nA2 : A ≠ W.ca := fun z => T1.ca_some (z ▸ hA)
  have nAF : ¬ F1 A := fun z => E1.live A z hA
  refine dc_it w1.w (fun i H2 => ∃ F2 s2 acc ds q2, Ext W F1 H1 F2 H2 ∧ Tp W s2 H2 ∧ H2 A = some (.dK acc) ∧ RepE W F2 H2 ds (acc.map fun e => (kV e.1, e.2)) ∧ (ds.all fun p => isKey p.1) = true ∧ ¬ F2 A ∧ dcF (fun x s => (bindT t x (wipeE r own)).bind fun r' => (evts G cs r' s).bind fun q => if q.1 then ((ev G ek r').v q.2).bind fun u => ((ev G e r').v u.2).map fun w => (some (u.1, w.1), w.2) else some (none, q.2)) (xs.drop i) ds s2 = some q2 ∧ q2 = qq ∧ acc.length ≤ i)
    ?_ ?_ ?_ ?_
  · exact ⟨F1, p.2, [], [], qq, Ext.laid E1.live hA, T1.laid hA, upd_same, rfl, rfl, nAF, e5, rfl, Nat.le_refl _⟩
  · rintro i H2 _ ⟨F2, s2, acc, ds, q2, E2, _⟩ a ha
    obtain ⟨n1, n2, n3⟩ := w1.ne a ha
    cases z : H1 a with
    | none => exact absurd z n3
    | some o => exact E2.keep a o z n1 n2
  · rintro i x H2 H3 hi ⟨F2, s2, acc, ds, q2, E2, T2, hacc, RR, hkeys, nF, el, eq1, hlen⟩ y
    have P1 := S0.pl.ext E1 T1
    have P2 := P1.ext E2 T2
    obtain ⟨xd, hxd⟩ : ∃ xd, xs[i]? = some xd := ⟨xs[i], by simp [hi]⟩
    have hdrop : xs.drop i = xd :: xs.drop (i + 1) := by
      rw [List.drop_eq_getElem_cons hi]
      congr 1
      rw [List.getElem?_eq_getElem hi] at hxd
      exact Option.some.inj hxd
    obtain ⟨F3, E3, T3, R3⟩ := Yl.rep P2 (y xd hxd F2 E2.mono (E2.frozen P1.f2 P1.f3) E2.live)
    rw [hdrop, dcF] at el
    obtain ⟨p1, f1, f2⟩ := Option.bind_eq_some_iff.mp el
    obtain ⟨r', g1, g2⟩ := Option.bind_eq_some_iff.mp f1
    obtain ⟨⟨bb, s4⟩, g3, g4⟩ := Option.bind_eq_some_iff.mp g2
    have S3 := S0.ext ((E1.trans E2).trans E3) T3
    have keepA : ∀ {F' F'' : Addr → Prop} {H' H'' : Hp}, Ext W F' H' F'' H'' → H' A = some (.dK acc) → H'' A = some (.dK acc) := fun E' z => E'.keep A _ z nA1 nA2
    have nfA : ∀ {F' F'' : Addr → Prop} {H' H'' : Hp}, Ext W F' H' F'' H'' → H' A = some (.dK acc) → ¬ F' A → ¬ F'' A := fun E' z n z' => by
      rcases E'.new A z' with u | u
      · exact n u
      · rw [z] at u; cases u
    have a3 := keepA E3 hacc
    have n3 := nfA E3 hacc nF
    have moveE : ∀ {F' F'' : Addr → Prop} {H' H'' : Hp} {s' : T} {us : List (V × V)}, Pl W F' H' s' → Ext W F' H' F'' H'' → RepE W F' H' ds us → RepE W F'' H'' ds us := fun P E' h => RepE.mono E'.mono (E'.frozen P.f2 P.f3) _ _ h
    refine ⟨F3, wipeE r own, s2, xd, r', S3.wiped own, R3, g1, fun σ' S' off => ⟨wipe_eq' off hv, F3, r', s2, bb, s4, S', g3, fun F4 H4 E4 T4 => ?_⟩⟩
    have a4 := keepA E4 a3
    have n4 := nfA E4 a3 n3
    have P3 := P2.ext E3 T3
    have P4 := P3.ext E4 T4
    have RR4 := moveE P3 E4 (moveE P2 E3 RR)
    cases bb with
    | false =>
      cases g4
      exact iteF ⟨F4, s4, acc, ds, q2, (E2.trans E3).trans E4, T4, a4, RR4, hkeys, n4, f2, eq1, by omega⟩
    | true =>
      dsimp only at g4
      rw [if_pos rfl] at g4
      obtain ⟨⟨kd, s5⟩, g5, g6⟩ := Option.bind_eq_some_iff.mp g4
      obtain ⟨⟨vd, s6⟩, g7, g8⟩ := Option.map_eq_some_iff.mp g6
      cases g8
      dsimp only at f2
      split at f2
      · rename_i hc
        rw [Bool.and_eq_true, decide_eq_true_eq] at hc
        refine iteT ⟨F4, r', s4, kd, s5, S'.ext E4 T4, g5, fun F5 v5 H5 E5 T5 R5 => ⟨F5, r', s5, vd, s6, (S'.ext E4 T4).ext E5 T5, g7, fun F6 v6 H6 E6 T6 R6 => ?_⟩⟩
        have P5 := P4.ext E5 T5
        have a6 := keepA E6 (keepA E5 a4)
        have n6 := nfA E6 (keepA E5 a4) (nfA E5 a4 n4)
        have R56 := P5.rep E6 R5
        have RR6 := leaf_put (v := vd) hc.1 hkeys (moveE P5 E6 (moveE P4 E5 RR4)) R56 R6
        refine ⟨acc, keyD kd, rep_key hc.1 R5, a6, Nat.lt_of_le_of_lt hlen (Nat.lt_of_lt_of_le hi w1.sz), ?_⟩
        refine ⟨F6, s6, putK acc (keyD kd) v6, dPut ds kd vd, q2, Ext.over ((((E2.trans E3).trans E4).trans E5).trans E6) hA, T6.over nA1 nA2, upd_same, RepE.mono (fun _ q => q) (fun b q => upd_ne (fun z : b = A => n6 (z ▸ q))) _ _ RR6, keys_put hkeys hc.1, n6, f2, eq1, ?_⟩
        have := putK_len (x := v6) acc (keyD kd)
        omega
      · cases f2
  · rintro H2 ⟨F2, s2, acc, ds, q2, E2, T2, hacc, RR, hkeys, nF, el, eq1, hlen⟩
    rw [List.drop_length, dcF] at el
    cases el
    subst eq1
    refine ⟨A, acc, rfl, hacc, fun o dl m z => ?_⟩
    have hA0 : H A = none := by
      cases z : H A with
      | none => rfl
      | some o => exact absurd hA (E1.alive A (by rw [z]; simp))
    refine kk F2 (.ref A) _ ((E1.trans E2).over hA0) (T2.over nA1 nA2) ?_
    unfold Own
    rw [if_pos (show isMut (.dic ds) = true from rfl)]
    refine ⟨A, rfl, hA0, nF, by rw [upd_same]; simp, A, o, _, rfl, upd_same, ⟨m, by rw [List.length_map]; exact z, .inl ⟨acc, rfl, by rw [← hP, ← hw']; exact dl⟩⟩, RepE.mono (fun _ q => q) (fun b q => upd_ne (fun z : b = A => nF (z ▸ q))) _ _ RR⟩
structure Dc (S : Sc) (W : Wd) (G : Gl) (kx elt tg iter : Expr) (ifs : List Expr) (scope : Scope) (own : List (Str × Nat)) (t : Tg) (k : Ik) (es cs : List E) (ek e : E) : Prop where
  hi : SI S W G tg iter k es
  ok : BlkOk S.N S.sc scope own
  hg : SG (S.blk scope) tg t
  ht : ST (S.blk scope) W G ifs cs
  hk : SE (S.blk scope) W G kx ek
  he : SE (S.blk scope) W G elt e
  hs : ∀ env x, foldedSetIterable iter env x = pure x := by intro _ _; rfl
  hv : ∀ i ∈ tgV t, i ∈ own.map (·.2) := by decide
variable {kx elt iter : Expr} {ifs : List Expr} {scope : Scope} {own : List (Str × Nat)} {t : Tg} {k : Ik} {es cs : List E}
theorem sf_dc (L : Dc S W G kx elt tg iter ifs scope own t k es cs ek e) : SF S W G (.DictComp kx elt [⟨tg, iter, ifs, 0⟩] scope pos) (.dc (own.map (·.2)) t k es cs ek e) := fun X h =>
  PE.weak (PE.pinned (pe_dc h.calm (h.hN ▸ h.nd) (L.hi X h).o (by rw [h.hN, h.hs]; exact L.ok) (fun s H C cl fp => L.hg W G _ (h.blk s H C cl fp)) (fun s H C cl fp => L.ht _ (h.blk s H C cl fp)) (fun s H C cl fp => (L.hk _ (h.blk s H C cl fp)).v) (fun s H C cl fp => (L.he _ (h.blk s H C cl fp)).v) (L.hs _)))
    fun σ H Q q => dc_weak h.hP h.hw L.hv rfl q
theorem se_dc (L : Dc S W G kx elt tg iter ifs scope own t k es cs ek e) : SE S W G (.DictComp kx elt [⟨tg, iter, ifs, 0⟩] scope pos) (.dc (own.map (·.2)) t k es cs ek e) := SF.se (fun _ _ => rfl) mk_dc (sf_dc L)
end

/-! ### name = {.. for ..} on one line -/
section
variable {X : Cx}
theorem swD_true {kx vx : Expr} {gs : List Comprehension} {scope : Scope} {pos py : Pos} {y : Str} {l : Nat} {env : PySem.Env} (hk : env.scope.kind = .function) (hy : env.scope.names.lookup y = some .local) (hl : (py.line == pos.line) = true)
    (ha : (scope.names.any fun (n, k) => n == y && (k == .local || k == .cell)) = false) : swapsWith (.DictComp kx vx gs scope pos) (some (.Name y py)) l env = pure true := by
  have h1 : env.kindOf y = some .local := hy
  have h2 : env.blockKind = .function := by unfold PySem.Env.blockKind; rw [hk]; rfl
  unfold swapsWith
  simp only [h2, h1, ha, Expr.pos, hl]
  rfl
theorem ps_setDc {i : Nat} {y : Str} {py : Pos} {kx vx tg iter : Expr} {ifs : List Expr} {scope : Scope} {own : List (Str × Nat)} {pos spos : Pos} {wi : TI} {g : TG} {tt : TT} {tk tv : TE} (hc : X.calm = true) (hN : X.N.Nodup) (hy : X.N[i]? = some y) (hyl : X.env.scope.names.lookup y = some .local)
    (hsw : swapsWith (.DictComp kx vx [⟨tg, iter, ifs, 0⟩] scope pos) (some (.Name y py)) spos.line X.env = pure true) (hi : PI X tg iter wi) (ok : BlkOk X.N X.env.scope scope own)
    (hg : ∀ (s : Shared) (H : Hp) (C : Addr) (cl : List (Str × Addr)) (fp : List Addr), PG (X.blk s H scope (compEnvC scope cl C X.env) fp) tg g) (ht : ∀ (s : Shared) (H : Hp) (C : Addr) (cl : List (Str × Addr)) (fp : List Addr), PTs (X.blk s H scope (compEnvC scope cl C X.env) fp) ifs tt)
    (hk : ∀ (s : Shared) (H : Hp) (C : Addr) (cl : List (Str × Addr)) (fp : List Addr), PE (X.blk s H scope (compEnvC scope cl C X.env) fp) kx tk)
    (he : ∀ (s : Shared) (H : Hp) (C : Addr) (cl : List (Str × Addr)) (fp : List Addr), PE (X.blk s H scope (compEnvC scope cl C X.env) fp) vx tv) (hs : ∀ x, foldedSetIterable iter X.env x = pure x) :
    PS X (.Assign [.Name y py] (.DictComp kx vx [⟨tg, iter, ifs, 0⟩] scope pos) spos) (fun D σ H => tDc wi g tt tk tv (own.map (·.2)) σ H (pinQ X fun x H1 => gName i x σ H1 D.nx)) := ⟨fun pins s σ H D I h => by
  rw [exec_Assign_Name_used _ _ _ _ hsw]
  refine wpAny_bind (wpAny_standAt (wpAny_bind ?_))
  show wpAny _ X.A (do let _ ← comprehension (.DictComp kx vx [⟨tg, iter, ifs, 0⟩] scope pos) scope X.env (firstIterPos [⟨tg, iter, ifs, 0⟩] pos) newDict false (eval iter X.env) (some (assign (.Name y py) X.env))) _ _ s
  refine wpAny_bind (thn (dc_core (Qf := fun _ s' => SP X pins D .next s') hc hN I hi ok hg ht hk he hs h fun L C s' m H' I' q hn f => ?_) fun _ s' hq => wpAny_pure (wpAny_pure hq))
  obtain ⟨p, es, ep, e2, k⟩ := q
  cases ep
  obtain ⟨o, I2, dl, hm, hz⟩ := pinK I' e2
  have q2 := k o dl hm hz
  show wpAny _ _ (assign (.Name y py) X.env (.ref L)) _ _ _
  refine wpAny_assign_Name (store_ok2 (v := V.ref L) I2 hN hy (.inl hyl) rfl (fun s2 I3 ⟨a, sb, ha⟩ => ?_) (.inr hyl))
  obtain ⟨f0, f1, f2, f3, f4, f5⟩ := f
  have haC : C ≠ a := by
    rcases ha with z | z
    · rw [z]; exact f1
    · exact fun e => f4 y a z e.symm
  have hCL : C ≠ L := fun e => by rw [e, e2] at f0; cases f0
  exact ⟨m, hn.sameBut sb haC, fun h3 sb3 => ⟨_, _, I3.turned (t' := s2.toks) (fun b o hb e => (sb3.2 b hb).trans e) (by rw [upd_ne hCL]; exact f0) f1 f3 f4 f5, q2⟩⟩⟩
end
section
variable {S : Sc} {W : Wd} {G : Gl} {wn : Nat} {X : Cx} {x y z tg : Expr} {a b c e ek : E} {pos : Pos}
variable {kx elt iter : Expr} {ifs : List Expr} {scope : Scope} {own : List (Str × Nat)} {t : Tg} {k : Ik} {es cs : List E}
theorem ss_setDc (i : Nat) (w : Bool) {n : Str} {p spos : Pos} (L : Dc S W G kx elt tg iter ifs scope own t k es cs ek e) (hn : Nm S i n := by exact {})
    (hk : S.sc.kind = .function := by rfl) (hy : S.sc.names.lookup n = some .local := by rfl) (hl : (p.line == pos.line) = true := by rfl) (ha : (scope.names.any fun (m, k) => m == n && (k == .local || k == .cell)) = false := by rfl) :
    SS S W G wn (.Assign [.Name n p] (.DictComp kx elt [⟨tg, iter, ifs, 0⟩] scope pos) spos) (.set i w (.dc (own.map (·.2)) t k es cs ek e)) := fun X h => by
  refine PS.weak (ps_setDc (i := i) h.calm (h.hN ▸ h.nd) (by rw [h.hN]; exact hn.hi) (by rw [h.hs]; exact hy) (swD_true (by rw [h.hs]; exact hk) (by rw [h.hs]; exact hy) hl ha) (L.hi X h).o (by rw [h.hN, h.hs]; exact L.ok)
    (fun s H C cl fp => L.hg W G _ (h.blk s H C cl fp)) (fun s H C cl fp => L.ht _ (h.blk s H C cl fp)) (fun s H C cl fp => (L.hk _ (h.blk s H C cl fp)).v) (fun s H C cl fp => (L.he _ (h.blk s H C cl fp)).v) (L.hs _)) fun D σ H q => ?_
  obtain ⟨F, r, t, o, S0, ee, f⟩ := q
  rw [ex] at ee
  obtain ⟨p, e1, e2⟩ := Option.map_eq_some_iff.mp ee
  cases e2
  have g : gM W G w (.dc (own.map (·.2)) _ _ _ _ _ _) σ H (fun x H1 => gName i x σ H1 D.nx) := gM_of (w := w) S0 (d := p.1) (s' := p.2) e1 fun F' v H' E1 T1 R1 => f F' _ H' (E1.kp S0.pl) (S0.setM E1 T1 i R1)
  cases w with
  | true => exact dc_weak h.hP h.hw L.hv rfl g
  | false =>
    obtain ⟨F, r, s, d, s', S0, ee, k⟩ := g
    refine dc_weak h.hP h.hw L.hv rfl ⟨F, r, s, d, s', S0, ee, fun F' v H' E1 T1 O1 => ?_⟩
    obtain ⟨F2, E2, R2⟩ := Own.rep E1 O1
    exact k F2 v H' E2 T1 R2
/-- d[k] = n = a constant -/
theorem ss_dputn (i j : Nat) {d : D} {n m : Str} {p tp mp : Pos} (h1 : SE S W G x (.con d)) (hk : SE S W G y b) (hi : S.N[i]? = some n := by rfl) (hm : Nm S j m := by exact {}) (hv : Vis S.sc n := by first | exact Or.inl rfl | exact Or.inr (Or.inl rfl) | exact Or.inr (Or.inr rfl)) (hd : (n == ("__debug__" : Str)) = false := by decide) (hcd : (n == ("__classdict__" : Str)) = false := by decide)
    (hij : i ≠ j := by decide) (hmu : isMut d = false := by rfl)
    (ha2 : ∀ env, (assignEach [.Subscript (.Name n p) y tp, .Name m mp] env).map (·.2) = [assign (.Subscript (.Name n p) y tp) env, assign (.Name m mp) env] := by intro _; rfl)
    (hw : ∀ env, swappedStores [.Subscript (.Name n p) y tp, .Name m mp] x env = pure none := by intro _; rfl)
    (ha : ∀ env v, assign (.Subscript (.Name n p) y tp) env v = (do
      let ov ← holding [v] (eval (.Name n p) env)
      let iv ← holding [v, ov] (eval y env)
      standAt tp
      holding [v, ov, iv] (setItem ov iv v)
      release [v, ov, iv] []) := by intro _ _; rfl) : SS S W G wn (.Assign [.Subscript (.Name n p) y tp, .Name m mp] x pos) (.ife (.con (.bl true)) [.dput i b (.con d), .set j false (.con d)] []) := fun X h => by
  have pv : PE X (.Name n p) (tVar i) := pe_var (by rw [h.hN]; exact hi) (by rw [h.hs]; exact hv) hd hcd
  have pn : PG X (.Name m mp) (gName j) := pg_name (h.hN ▸ h.nd) (by rw [h.hN]; exact hm.hi) (by rw [h.hs]; exact hm.hx) (by rw [h.hs]; exact hm.hf.imp (h.hf m) id)
  refine PS.weak (ps_asg2 (h1 X h).v (pg_sub pv (hk X h).v (set_dic h.hK h.hP h.hw h.un) (ha _)) pn (ha2 _) (hw _)) fun D σ H q => ?_
  obtain ⟨F, r, t, o, S0, ee, f⟩ := q
  rw [ex, ev] at ee
  have ee' : exs G wn [.dput i b (.con d), .set j false (.con d)] r t = some o := ee
  rw [exs, ex, ev] at ee'
  simp only [mk, Option.bind_some] at ee'
  unfold seqR at ee'
  obtain ⟨o1, e1, e2⟩ := Option.bind_eq_some_iff.mp ee'
  obtain ⟨kq, e3, e4⟩ := Option.bind_eq_some_iff.mp e1
  obtain ⟨kvs, e5, e6⟩ := Option.bind_eq_some_iff.mp e4
  split at e6
  · rename_i hkz
    rw [Bool.and_eq_true, decide_eq_true_eq] at hkz
    cases e6
    dsimp only at e2
    simp only [exs, ex, ev, mk, Option.map_some, seqR, Option.bind_some] at e2
    cases e2
    refine ⟨F, r, t, d, t, S0, by rw [ev]; rfl, fun F' v H' E1 T1 R' => ?_⟩
    have S1 := S0.ext E1 T1
    obtain ⟨pp, s1, _⟩ := S1.own i _ (ownD_at e5)
    refine ⟨_, s1, F', r, t, kq.1, kq.2, S1, e3, fun F2 u H2 E2 T2 R2 => ?_⟩
    have S2 := S1.ext E2 T2
    obtain ⟨pp', s1', tp', nf, _⟩ := S2.own i _ (ownD_at e5)
    rw [s1] at s1'
    cases s1'
    obtain ⟨p2, e7, hdic⟩ := tp'.dic
    cases e7
    refine ⟨pp, F2, kvs, kq.1, d, rfl, hdic, hkz.1, hkz.2, R2, S1.pl.rep E2 R', fun o' us d' r' => ?_⟩
    have kF : ∀ a, F2 a → upd H2 pp (pin pp o') a = H2 a := fun a fa => upd_ne fun e : a = pp => nf (e ▸ fa)
    obtain ⟨S3, k3⟩ := S2.writeD (ob := pin pp o') (d1 := .dic (dPut kvs kq.1 d)) (ownD_at e5) s1 ⟨pp, o', us, rfl, upd_same, d', RepE.mono (fun _ h => h) kF _ _ r'⟩
    have R3 : Rep W F2 (upd H2 pp (pin pp o')) d v := Rep.mono (fun _ h => h) kF _ _ (S1.pl.rep E2 R')
    exact f F2 _ _ (((E1.trans E2).kp S0.pl).trans k3) (S3.setv j R3)
  · cases e6
end
end Ip

/-! IpW: sets of tuples of any hashable items, made of a list and put in order. -/
namespace Ip
open PySem PySem.Spec PyProof.Rows L2
section
variable {P : Program} {w : World} {A : Around} {E : Value → Shared → Prop} {s : Shared}
/-! ### questions that a search asks -/
def OfN (P : Program) (w : World) (n : Nat) (s : Shared) (v : Value) : Prop := ∀ (A : Around) (E : Value → Shared → Prop) (Q : Bool → Shared → Prop), Q false s → wpAny (model P w) A (ofAClassStatement n v) Q E s
def HbN (P : Program) (w : World) (n : Nat) (s : Shared) (v : Value) : Prop := ∀ (A : Around) (E : Value → Shared → Prop) (Q : Bool → Shared → Prop), (∀ b, Q b s) → wpAny (model P w) A (hashByValue n v) Q E s
theorem ofN_tup {n : Nat} {a : Addr} {o : Obj} {vs : Array Value} {m : Nat} (hg : s.heap.get? a = some o) (hc : o.cls = .type "tuple") (hd : o.data = .seq vs m) (h : ∀ v ∈ vs.toList, OfN P w n s v) : OfN P w (n + 1) s (.ref a) := fun A E Q q => by
  unfold ofAClassStatement
  refine wpAny_bind (wpAny_typeOf ⟨o, hg, hc⟩ ?_)
  dsimp only
  have e : (("tuple" : String) == "tuple") = true := by decide
  simp only [e, if_true, Bool.not_true, Bool.false_eq_true, if_false]
  try refine wpAny_bind (wpAny_pure ?_)
  try simp only [Bool.not_true, Bool.false_eq_true, if_false]
  show wpAny _ _ (seqItems? (.ref a) >>= _) _ _ s
  refine wpAny_bind (wpAny_seqItems hg hd ?_)
  dsimp only
  refine wpAny_bind ?_
  show wpAny _ _ (forIn vs _ _) _ _ s
  rw [← Array.forIn_toList]
  refine wpAny_forIn_list _ (fun rest r s' => (r.1 = none ∧ s' = s) ∧ ∀ v ∈ rest, OfN P w n s v) _ ?_ ?_ _ _ ⟨⟨rfl, rfl⟩, h⟩
  · intro v rest r s' hI
    obtain ⟨⟨_, rfl⟩, hall⟩ := hI
    refine wpAny_bind (hall v List.mem_cons_self _ _ _ ?_)
    simp only [Bool.false_eq_true, if_false]
    exact wpAny_pure ⟨⟨rfl, rfl⟩, fun u hu => hall u (List.mem_cons_of_mem _ hu)⟩
  · intro r s' hI
    obtain ⟨r1, r2⟩ := r
    obtain ⟨⟨h1, rfl⟩, _⟩ := hI
    have h1' : r1 = none := h1
    subst h1'
    exact wpAny_pure q
mutual
theorem ofN_key : ∀ (k : NestedKey) (v : Value) (n : Nat) (s : Shared), NestedIs s.heap k v → k.depth ≤ n → OfN P w n s v
  | .none, _, n, s, x, _ => by cases x; cases n <;> exact fun _ _ _ q => wpAny_pure q
  | .num i, _, n, s, x, _ => by cases x <;> cases n <;> exact fun _ _ _ q => wpAny_pure q
  | .text y, _, n, s, x, _ => by cases x; cases n <;> exact fun _ _ _ q => wpAny_pure q
  | .tup ks, _, n, s, x, hn => by
    cases x with
    | tup hg hc hd hk =>
      simp only [NestedKey.depth] at hn
      cases n with
      | zero => omega
      | succ n => exact ofN_tup hg hc hd (ofN_keys ks _ n s hk (by omega))
theorem ofN_keys : ∀ (ks : List NestedKey) (vs : List Value) (n : Nat) (s : Shared), NestedAll s.heap ks vs → NestedKey.depthAll ks ≤ n → ∀ v ∈ vs, OfN P w n s v
  | [], _, n, s, x, _, v, hv => by cases x; cases hv
  | k :: ks, _, n, s, x, hn, v, hv => by
    cases x with
    | cons x1 x2 =>
      simp only [NestedKey.depthAll] at hn
      rcases List.mem_cons.mp hv with e | hv
      · rw [e]; exact ofN_key k _ n s x1 (by omega)
      · exact ofN_keys ks _ n s x2 (by omega) v hv
end
theorem hbN_tup {n : Nat} {a : Addr} {o : Obj} {vs : Array Value} {m : Nat} (hg : s.heap.get? a = some o) (hc : o.cls = .type "tuple") (hd : o.data = .seq vs m) (h : ∀ v ∈ vs.toList, HbN P w n s v) : HbN P w (n + 1) s (.ref a) := fun A E Q q => by
  have hT : s.TypeIs (.ref a) "tuple" := ⟨o, hg, hc⟩
  unfold hashByValue
  refine wpAny_bind (wpAny_specialOf hT F.slot_tuple_hash.lookup ?_)
  show wpAny _ _ (seqItems? (.ref a) >>= _) _ _ s
  refine wpAny_bind (wpAny_seqItems hg hd ?_)
  refine wpAny_bind ?_
  show wpAny _ _ (forIn vs _ _) _ _ s
  rw [← Array.forIn_toList]
  refine wpAny_forIn_list _ (fun rest r s' => (r.1 = none ∧ s' = s) ∧ ∀ v ∈ rest, HbN P w n s v) _ ?_ ?_ _ _ ⟨⟨rfl, rfl⟩, h⟩
  · intro v rest r s' hI
    obtain ⟨⟨_, rfl⟩, hall⟩ := hI
    refine wpAny_bind (hall v List.mem_cons_self _ _ _ fun b => ?_)
    cases b with
    | true =>
      simp only [Bool.not_true, Bool.false_eq_true, if_false]
      exact wpAny_pure ⟨⟨rfl, rfl⟩, fun u hu => hall u (List.mem_cons_of_mem _ hu)⟩
    | false =>
      simp only [Bool.not_false, if_true]
      exact wpAny_pure (wpAny_pure (q false))
  · intro r s' hI
    obtain ⟨r1, r2⟩ := r
    obtain ⟨⟨h1, rfl⟩, _⟩ := hI
    have h1' : r1 = none := h1
    subst h1'
    exact wpAny_pure (q true)
mutual
theorem hbN_key : ∀ (k : NestedKey) (v : Value) (n : Nat) (s : Shared), NestedIs s.heap k v → k.depth ≤ n → HbN P w n s v
  | .none, _, n, s, x, _ => by cases x; cases n <;> exact fun _ _ _ q => wpAny_pure (q true)
  | .num i, _, n, s, x, _ => by cases x <;> cases n <;> exact fun _ _ _ q => wpAny_pure (q true)
  | .text y, _, n, s, x, _ => by cases x; cases n <;> exact fun _ _ _ q => wpAny_pure (q false)
  | .tup ks, _, n, s, x, hn => by
    cases x with
    | tup hg hc hd hk =>
      simp only [NestedKey.depth] at hn
      cases n with
      | zero => omega
      | succ n => exact hbN_tup hg hc hd (hbN_keys ks _ n s hk (by omega))
theorem hbN_keys : ∀ (ks : List NestedKey) (vs : List Value) (n : Nat) (s : Shared), NestedAll s.heap ks vs → NestedKey.depthAll ks ≤ n → ∀ v ∈ vs, HbN P w n s v
  | [], _, n, s, x, _, v, hv => by cases x; cases hv
  | k :: ks, _, n, s, x, hn, v, hv => by
    cases x with
    | cons x1 x2 =>
      simp only [NestedKey.depthAll] at hn
      rcases List.mem_cons.mp hv with e | hv
      · rw [e]; exact hbN_key k _ n s x1 (by omega)
      · exact hbN_keys ks _ n s x2 (by omega) v hv
end
/-- the tuple at a is the key k -/
abbrev NT (P : Program) (w : World) (h : Heap) (k : NestedKey) (a : Addr) : Prop := (nestedKind P w).is h k a
theorem NT.at {h h' : Heap} {k : NestedKey} {b : Addr} (x : NT P w h k b) (hk : ∀ c o, h.get? c = some o → h'.get? c = some o) : NT P w h' k b := nestedKind_stays.stays (fun b o _ _ e _ => hk b o e) x
theorem NT.same {h h' : Heap} {k : NestedKey} {a b : Addr} {o : Obj} {es : Array (Int × Value)} {ep : Nat} {t : SetTable} (x : NT P w h k b) (ho : h.get? a = some o) (hd : o.data = .set es ep t) (hs : Heap.SameBut a h h') : NT P w h' k b :=
  nestedKind_stays.stays (fun c oc vs n e ed => by
    have hne : c ≠ a := fun z => by
      subst z
      rw [e] at ho
      cases ho
      rw [hd] at ed
      cases ed
    exact (hs.2 c hne).trans e) x
/-- a search shows nothing -/
theorem seenN {k : NestedKey} {b : Addr} {Q : Bool → Shared → Prop} (hk : NT P w s.heap k b) {ys : List Value} (hy : ∀ y ∈ ys, ∃ k' c, y = Value.ref c ∧ NT P w s.heap k' c) (h : Q false s) : wpAny (model P w) A (searchCouldBeSeen (.ref b) ys) Q E s := by
  unfold searchCouldBeSeen
  refine wpAny_bind ?_
  refine wpAny_forIn_list _ (fun rest r s' => (r.1 = none ∧ s' = s) ∧ ∀ y ∈ rest, ∃ k' c, y = Value.ref c ∧ NT P w s.heap k' c) _ ?_ ?_ _ _ ⟨⟨rfl, rfl⟩, hy⟩
  · intro v rest r s' hI
    obtain ⟨⟨_, rfl⟩, hall⟩ := hI
    obtain ⟨k', c, rfl, hc⟩ := hall v List.mem_cons_self
    have nx : ∀ y ∈ rest, ∃ k' c, y = Value.ref c ∧ NT P w s'.heap k' c := fun u hu => hall u (List.mem_cons_of_mem _ hu)
    dsimp only
    by_cases hv : (b == c || (carriedByValue (.ref b) && carriedByValue (.ref c))) = true
    · exact wp_if_pos hv (wpAny_pure ⟨⟨rfl, rfl⟩, nx⟩)
    · refine wp_if_neg hv ?_
      refine wpAny_bind ((nestedKind P w).quiet hk ?_)
      simp only [Bool.not_true, Bool.false_eq_true, if_false]
      refine wpAny_bind ((nestedKind P w).quiet hc ?_)
      simp only [Bool.not_true, Bool.false_eq_true, if_false]
      refine wpAny_bind (ofN_key _ _ 8 _ hk.1 hk.2 _ _ _ ?_)
      simp only [Bool.false_eq_true, if_false]
      refine wpAny_bind (ofN_key _ _ 8 _ hc.1 hc.2 _ _ _ ?_)
      simp only [Bool.false_eq_true, if_false]
      exact wpAny_pure ⟨⟨rfl, rfl⟩, nx⟩
  · intro r s' hI
    obtain ⟨r1, r2⟩ := r
    obtain ⟨⟨h1, rfl⟩, _⟩ := hI
    have h1' : r1 = none := h1
    subst h1'
    exact wpAny_pure h
end

/-! ### the set -/
/-- where a search for the hash h begins -/
abbrev pr0 (m : Nat) (h : Int) : SetTable.Probe := runAt m (SetTable.bits h % (m + 1)) (SetTable.bits h)
theorem way_pr (m : Nat) (h : Int) (k : Nat) : (nth m (pr0 m h) k).j = way m h k := rfl
theorem nth_dummy (m : Nat) : ∀ (n : Nat) (p : SetTable.Probe), p.dummy = none → (nth m p n).dummy = none
  | 0, _, h => h
  | n + 1, p, h => nth_dummy m n (adv m p) (by unfold adv; split <;> exact h)
def rowN (w : World) (L : List (Addr × NestedKey)) : List (Int × Value) := L.map fun p => (p.2.hash w, Value.ref p.1)
theorem rowN_len (w : World) (L : List (Addr × NestedKey)) : (rowN w L).length = L.length := List.length_map ..
theorem size_of_rows {w : World} {L : List (Addr × NestedKey)} {es : Array (Int × Value)} (h : es.toList = rowN w L) : es.size = L.length := by
  rw [← Array.length_toList, h, rowN_len]
theorem entry_of_rows {w : World} {L : List (Addr × NestedKey)} {es : Array (Int × Value)} (h : es.toList = rowN w L) {i : Nat} {p : Addr × NestedKey} (hp : L[i]? = some p) : es[i]? = some (p.2.hash w, Value.ref p.1) := by
  rw [← Array.getElem?_toList, h]
  unfold rowN
  rw [List.getElem?_map, hp]
  rfl
/-- the set at a holds the tuples L -/
structure SetN (P : Program) (w : World) (h : Heap) (a : Addr) (L : List (Addr × NestedKey)) (es : Array (Int × Value)) (ep : Nat) (t : SetTable) : Prop where
  ob : ∃ o, h.get? a = some o ∧ o.ExactSet ∧ o.data = .set es ep t
  rows : es.toList = rowN w L
  tab : TabOk t (L.map fun p => p.2.hash w)
  nd : (L.map (·.2)).Nodup
  tup : ∀ p ∈ L, NT P w h p.2 p.1
  led : w.params.followText "set-order" = true ∨ t.led = true
  room : L.length * 5 < t.mask * 3
  few : L.length < 64
section
variable {P : Program} {w : World} {A : Around} {E : Value → Shared → Prop} {s : Shared} {a : Addr} {L : List (Addr × NestedKey)} {es : Array (Int × Value)} {ep : Nat} {t : SetTable}
theorem fits_of {t : SetTable} {n : Nat} (h1 : t.place.size = n) (h2 : t.dummies = #[]) (h3 : n ≤ t.mask) : t.fits n = true := by
  unfold SetTable.fits SetTable.fill
  rw [h2, Bool.and_eq_true, beq_iff_eq, decide_eq_true_eq]
  show t.place.size = n ∧ t.place.size + 0 ≤ t.mask
  omega
theorem SetN.place (R : SetN P w s.heap a L es ep t) : t.place.size = L.length := by
  have h := R.tab.sz
  rwa [List.length_map] at h
theorem SetN.fits (R : SetN P w s.heap a L es ep t) : t.fits es.size = true := by
  have h := R.room
  exact fits_of (by rw [R.place, size_of_rows R.rows]) R.tab.dm (by rw [size_of_rows R.rows]; omega)
theorem SetN.stays (R : SetN P w s.heap a L es ep t) : ¬ t.gaveWay = true := by
  unfold SetTable.gaveWay
  rw [mask_odd R.tab.mok]
  decide
/-- the search for a tuple that is or is not there: the first empty slot of its way is the K-th -/
theorem findN (R : SetN P w s.heap a L es ep t) {x : Addr} {k : NestedKey} (hx : NT P w s.heap k x) (hu : (nestedKind P w).room A) {K : Nat} (hf : K < 10 * SetTable.turns t.mask) (hK : way t.mask (k.hash w) K ∉ t.place.toList)
    (hb : ∀ c, c < K → way t.mask (k.hash w) c ∈ t.place.toList) {Q : SetFound → Shared → Prop} (yes : k ∈ L.map (·.2) → Q (.there none) s) (no : k ∉ L.map (·.2) → Q (.free (way t.mask (k.hash w) K) false) s) :
    ∀ (f c : Nat) (st : Option SetTable.Probe), st.getD (t.probeStart (k.hash w)) = nth t.mask (pr0 t.mask (k.hash w)) c → c ≤ K → K - c < f →
      (∀ (i : Nat) p, L[i]? = some p → p.2 = k → ∃ c', (c ≤ c' ∧ c' < K) ∧ t.place.toList[i]? = some (way t.mask (k.hash w) c')) → wpAny (model P w) A (setSearchFrom a (.ref x) (k.hash w) true f st) Q E s := by
  obtain ⟨o, ho, hex, hd⟩ := R.ob
  intro f
  induction f with
  | zero => intro c st _ _ h _; omega
  | succ f ih =>
    intro c st hst hc hcf hre
    rw [setSearchFrom_succ]
    refine wpAny_bind (wpAny_setState_of ho hd R.fits ?_)
    dsimp only
    refine wp_if_neg R.stays ?_
    try refine wpAny_bind (wpAny_pure ?_)
    have sh : ∀ q, nth t.mask (nth t.mask (pr0 t.mask (k.hash w)) c) q = nth t.mask (pr0 t.mask (k.hash w)) (c + q) := fun q => (nth_add t.mask c _ q).symm
    have wj : ∀ q, (nth t.mask (nth t.mask (pr0 t.mask (k.hash w)) c) q).j = way t.mask (k.hash w) (c + q) := fun q => congrArg SetTable.Probe.j (sh q)
    have hashAt : ∀ (i : Nat) p, L[i]? = some p → (fun i => (es[i]?.map (·.1)).getD 0) i = p.2.hash w := fun i p hp => by
      show (es[i]?.map (·.1)).getD 0 = _
      rw [entry_of_rows R.rows hp]
      rfl
    rcases go_spec t R.tab.ris R.tab.dm (fun i => (es[i]?.map (·.1)).getD 0) (k.hash w) (10 * SetTable.turns t.mask) (K - c) _ (nth_dummy t.mask c _ rfl) (by omega)
      (fun q hq => by rw [wj]; exact hb (c + q) (by omega)) (by rw [wj, show c + (K - c) = K by omega]; exact hK) with ⟨q, i, hq, hi, hh, hno, hpr⟩ | ⟨hno, hpr⟩
    · have hpr' : t.probe (fun i => (es[i]?.map (·.1)).getD 0) (k.hash w) (st.getD (t.probeStart (k.hash w))) = some (.candidate (way t.mask (k.hash w) (c + q)) i (nth t.mask (pr0 t.mask (k.hash w)) (c + (q + 1)))) := by
        rw [hst, ← wj, ← sh]
        exact hpr
      rw [hpr']
      dsimp only
      rw [wj] at hi
      have hil : i < L.length := by
        have h1 := (List.getElem?_eq_some_iff.mp hi).1
        rw [Array.length_toList, R.place] at h1
        exact h1
      obtain ⟨p, hp⟩ : ∃ p, L[i]? = some p := ⟨L[i], List.getElem?_eq_getElem hil⟩
      have hmem : p ∈ L := List.mem_of_getElem? hp
      have hsl : t.slot (way t.mask (k.hash w) (c + q)) = .live i := slot_live R.tab.ris hi
      have rest : wpAny (model P w) A (searchRest a (.ref x) (k.hash w) true f es t (way t.mask (k.hash w) (c + q)) i (nth t.mask (pr0 t.mask (k.hash w)) (c + (q + 1)))) Q E s := by
        unfold searchRest
        rw [entry_of_rows R.rows hp]
        dsimp only
        refine wpAny_bind (wpAny_holding ((nestedKind P w).eqBool hu (R.tup p hmem) hx ?_))
        refine wpAny_bind (wpAny_setState_of ho hd R.fits ?_)
        dsimp only
        by_cases hkk : p.2 = k
        · exact wp_if_pos (by simp [hkk]) (wpAny_pure (yes (List.mem_map.mpr ⟨p, hmem, hkk⟩)))
        · refine wp_if_neg (by simp [hkk]) ?_
          try refine wpAny_bind (wpAny_pure ?_)
          rw [sameMem]
          dsimp only
          simp only [if_true, hsl, entry_of_rows R.rows hp]
          refine wpAny_bind (wpAny_isSame_ref_self (wpAny_bind (wpAny_pure ?_)))
          simp only [if_true]
          refine wp_if_neg (by simp [hkk]) ?_
          refine ih (c + (q + 1)) _ rfl (by omega) (by omega) fun i0 p0 h0 hk0 => ?_
          obtain ⟨c', ⟨a1, a2⟩, a3⟩ := hre i0 p0 h0 hk0
          refine ⟨c', ⟨?_, a2⟩, a3⟩
          rcases Nat.lt_trichotomy c' (c + q) with z | z | z
          · exact absurd ((hashAt i0 p0 h0).trans (congrArg (NestedKey.hash w) hk0)) (hno (c' - c) i0 (by omega) (by rw [wj, show c + (c' - c) = c' by omega]; exact a3))
          · rw [z] at a3
            have s0 := slot_live R.tab.ris a3
            rw [hsl] at s0
            injection s0 with s0
            rw [← s0, hp] at h0
            exact absurd ((congrArg Prod.snd (Option.some.inj h0)).trans hk0) hkk
          · omega
      by_cases hl : t.led = true
      · refine wp_if_neg (by simp [hl]) ?_
        try refine wpAny_bind (wpAny_pure ?_)
        exact rest
      · refine wp_if_pos (by simp [hl]) ?_
        refine wpAny_bind (seenN hx (fun y hy => ?_) ?_)
        · obtain ⟨e, he, ee⟩ := List.mem_map.mp hy
          have he1 : e ∈ es ∧ e.1 = k.hash w := by simpa using he
          have he2 : e ∈ es.toList := by simpa using he1.1
          rw [R.rows] at he2
          obtain ⟨p2, hp2, e2⟩ := List.mem_map.mp he2
          exact ⟨p2.2, p2.1, by rw [← ee, ← e2], R.tup p2 hp2⟩
        · refine wp_if_neg (by decide) ?_
          try refine wpAny_bind (wpAny_pure ?_)
          exact rest
    · have hpr' : t.probe (fun i => (es[i]?.map (·.1)).getD 0) (k.hash w) (st.getD (t.probeStart (k.hash w))) = some (.empty (way t.mask (k.hash w) K) none) := by
        have e2 : way t.mask (k.hash w) K = (nth t.mask (nth t.mask (pr0 t.mask (k.hash w)) c) (K - c)).j := by
          rw [wj, show c + (K - c) = K by omega]
        rw [hst, e2]
        exact hpr
      rw [hpr']
      dsimp only
      refine wpAny_pure (no fun hm => ?_)
      obtain ⟨p0, h0, hk0⟩ := List.mem_map.mp hm
      obtain ⟨i0, hi0, e0⟩ := List.getElem_of_mem h0
      have h00 : L[i0]? = some p0 := by rw [List.getElem?_eq_getElem hi0, e0]
      obtain ⟨c', ⟨a1, a2⟩, a3⟩ := hre i0 p0 h00 hk0
      exact hno (c' - c) i0 (by omega) (by rw [wj, show c + (c' - c) = c' by omega]; exact a3) ((hashAt i0 p0 h00).trans (congrArg (NestedKey.hash w) hk0))
/-- as adding asks for it -/
theorem searchN (R : SetN P w s.heap a L es ep t) {x : Addr} {k : NestedKey} (hx : NT P w s.heap k x) (hu : (nestedKind P w).room A) {Q : SetFound → Shared → Prop} (yes : k ∈ L.map (·.2) → Q (.there none) s)
    (no : ∀ K, k ∉ L.map (·.2) → way t.mask (k.hash w) K ∉ t.place.toList → (∀ c, c < K → way t.mask (k.hash w) c ∈ t.place.toList) → Q (.free (way t.mask (k.hash w) K) false) s) :
    wpAny (model P w) A (setSearch a (.ref x) (k.hash w) true) Q E s := by
  have hroom := R.room
  obtain ⟨K, hf, hK, hb⟩ := R.tab.first (by rw [List.length_map]; omega) (k.hash w)
  have hbig : K < 100000 := by
    have : 10 * SetTable.turns t.mask ≤ 1420 := by
      unfold SetTable.turns
      rcases R.tab.mok with e | e | e <;> omega
    omega
  unfold setSearch
  refine findN R hx hu hf hK hb yes (fun hn => no K hn hK hb) 100000 0 none rfl (Nat.zero_le _) (by omega) fun i p hp hk => ?_
  have hi : (L.map fun p => p.2.hash w)[i]? = some (k.hash w) := by rw [List.getElem?_map, hp, ← hk]; rfl
  have hil : i < t.place.toList.length := by
    rw [Array.length_toList, R.place]
    exact (List.getElem?_eq_some_iff.mp hp).1
  have hj := List.getElem?_eq_getElem hil
  obtain ⟨c, hc, e⟩ := R.tab.before hK hi hj
  exact ⟨c, ⟨Nat.zero_le _, hc⟩, by rw [hj, e]⟩
end

/-! ### adding -/
section
variable {P : Program} {w : World} {A : Around} {E : Value → Shared → Prop} {s : Shared} {a : Addr} {L : List (Addr × NestedKey)} {es : Array (Int × Value)} {ep : Nat} {t : SetTable}
theorem pick_rows (L : List (Addr × NestedKey)) (es : Array (Int × Value)) (hr : es.toList = rowN w L) : ∀ l : List Nat, (∀ i ∈ l, i < L.length) → l.filterMap (fun i => es[i]?) = rowN w (l.filterMap fun i => L[i]?) ∧ ((l.filterMap fun i => L[i]?).map fun p => p.2.hash w) = l.map fun i => (es.map (·.1)).getD i 0
  | [], _ => ⟨rfl, rfl⟩
  | i :: l, h => by
    obtain ⟨e1, e2⟩ := pick_rows L es hr l fun j hj => h j (List.mem_cons_of_mem _ hj)
    have hi := h i List.mem_cons_self
    have hL : L[i]? = some L[i] := List.getElem?_eq_getElem hi
    have hE := entry_of_rows hr hL
    have hM : (es.map (·.1)).getD i 0 = (L[i]).2.hash w := by
      have e5 : (es.map (·.1))[i]? = some ((L[i]).2.hash w) := by rw [Array.getElem?_map, hE]; rfl
      simp [Array.getD_eq_getD_getElem?, e5]
    rw [List.filterMap_cons_some hE, List.filterMap_cons_some hL, e1, List.map_cons, List.map_cons, e2, hM]
    exact ⟨rfl, rfl⟩
theorem range_pick {α : Type} (L : List α) : ∀ n, n ≤ L.length → (List.range n).filterMap (fun i => L[i]?) = L.take n
  | 0, _ => rfl
  | n + 1, h => by
    rw [List.range_succ, List.filterMap_append, range_pick L n (by omega), List.take_succ, List.getElem?_eq_getElem h, List.filterMap_cons_some (List.getElem?_eq_getElem h)]
    rfl
theorem relayN {o : Obj} (ho : s.heap.get? a = some o) (hex : o.ExactSet) (hd : o.data = .set es ep t) (hr : es.toList = rowN w L) (hsz : t.place.size = L.length) (hdm : t.dummies = #[]) (hfl : L.length ≤ t.mask)
    (nd : (L.map (·.2)).Nodup) (tup : ∀ p ∈ L, NT P w s.heap p.2 p.1) (ld : w.params.followText "set-order" = true ∨ t.led = true) (few : L.length < 64) {wanted M : Nat}
    (hw : SetTable.sizeAbove wanted - 1 = M) (hM : MaskOk M) (hw2 : SetTable.sizeAbove wanted ≤ 128) (hn : L.length * 5 < M * 3) {Q : Unit → Shared → Prop}
    (hQ : ∀ h' L' es' ep' t', Heap.SameBut a s.heap h' → SetN P w h' a L' es' ep' t' → L'.Perm L → Q () { s with heap := h' }) : wpAny (model P w) A (setRelay a wanted) Q E s := by
  have hsl := size_of_rows hr
  obtain ⟨t', order, e, hp, T, em, el, _, ed⟩ := relaid_ok t (hs := es.map (·.1)) (wanted := wanted) hw hM (by rw [Array.size_map, hsl]; omega)
  rw [Array.size_map, hsl] at hp
  have hin : ∀ i ∈ order.toList, i < L.length := fun i hi => List.mem_range.mp (hp.mem_iff.mp hi)
  obtain ⟨r1, r3⟩ := pick_rows L es hr order.toList hin
  have r2 : (order.toList.filterMap fun i => L[i]?).Perm L := by
    have h1 := hp.filterMap fun i => L[i]?
    rw [range_pick L L.length (Nat.le_refl _), List.take_length] at h1
    exact h1
  have r1' : (order.filterMap (es[·]?)).toList = rowN w (order.toList.filterMap fun i => L[i]?) := by
    first | (rw [Array.toList_filterMap]; exact r1) | simpa using r1
  generalize (order.toList.filterMap fun i => L[i]?) = L2 at r1' r2 r3
  rw [← r3] at T
  have hs2 : (order.filterMap (es[·]?)).size = es.size := by rw [size_of_rows r1', r2.length_eq, hsl]
  rw [setRelay_eq]
  refine wpAny_bind (wpAny_setState_of ho hd (fits_of (by rw [hsz, hsl]) hdm (by rw [hsl]; exact hfl)) ?_)
  dsimp only
  refine wp_if_neg (by rw [sizeLine_eq]; omega) ?_
  try refine wpAny_bind (wpAny_pure ?_)
  rw [e]
  dsimp only
  refine wpAny_bind ?_
  refine wp_if_neg (by rw [hs2]; simp) ?_
  try refine wpAny_bind (wpAny_pure ?_)
  refine wpAny_pure ?_
  dsimp only
  refine wpAny_storeSet_of ho hd ?_ (by rw [hs2, hsl, sizeLine_eq]; omega)
  have sb : Heap.SameBut a s.heap (s.heap.update a (Obj.putSet (order.filterMap (es[·]?)) t')) := Heap.SameBut.update ..
  exact hQ _ L2 _ (ep + 1) t' sb ⟨⟨_, store_at ho hd, ⟨hex.1, hex.2.1, hex.2.2⟩, rfl⟩, r1', T, (r2.map (·.2)).nodup_iff.mpr nd, fun p hpm => (tup p (r2.mem_iff.mp hpm)).same ho hd sb, by rw [el]; exact ld, by rw [r2.length_eq, em]; exact hn, by rw [r2.length_eq]; exact few⟩ r2
theorem TabOk.plain {t : SetTable} {hs : List Int} (T : TabOk t hs) (b : Bool) : TabOk { t with plain := b } hs := ⟨T.ris, T.dm, T.sz, T.mok, T.bd, T.reach⟩
theorem addN (R : SetN P w s.heap a L es ep t) {x : Addr} {k : NestedKey} (hx : NT P w s.heap k x) (hu : (nestedKind P w).room A) (hfew : k ∉ L.map (·.2) → L.length + 1 < 64) {Q : Bool → Shared → Prop}
    (hQ : ∀ b h' L' es' ep' t', Heap.SameBut a s.heap h' → SetN P w h' a L' es' ep' t' → (k ∈ L.map (·.2) → L' = L) → (k ∉ L.map (·.2) → L'.Perm ((x, k) :: L)) → Q b { s with heap := h' }) :
    wpAny (model P w) A (setAddHashed a (.ref x) (k.hash w)) Q E s := by
  obtain ⟨o, ho, hex, hd⟩ := R.ob
  have hsl := size_of_rows R.rows
  have hroom := R.room
  unfold setAddHashed
  refine wpAny_holding ?_
  rw [show (100000 : Nat) = 99999 + 1 from rfl, setAddHashedIn_succ]
  refine wpAny_bind (wpAny_setState_of ho hd R.fits ?_)
  dsimp only
  refine wp_if_neg (by simp [byScan, Value.scannable]) ?_
  try refine wpAny_bind (wpAny_pure ?_)
  refine wpAny_bind (searchN R hx hu (fun hm => ?_) fun K hm hK hb => ?_)
  · exact wpAny_pure (hQ false s.heap L es ep t (Heap.SameBut.refl a s.heap) R (fun _ => rfl) fun z => absurd hm z)
  dsimp only
  refine wpAny_bind (wpAny_setState_of ho hd R.fits ?_)
  dsimp only
  have few1 := hfew hm
  obtain ⟨q1, q2, q3, q4, q5, q6, q7, q8, q9⟩ := R.tab.put hK hb
  generalize hpt : t.put (way t.mask (k.hash w) K) = pt at q1 q3 q4 q5 q6 q7 q8 q9 ⊢
  obtain ⟨t1, p⟩ := pt
  dsimp only at q1 q3 q4 q5 q6 q7 q8 q9 ⊢
  subst q1
  have go : ∀ b : Bool, wpAny (model P w) A (do
      storeSet a (SetTable.insertAt es (SetTable.below t.place (way t.mask (k.hash w) K)) (k.hash w, Value.ref x)) (if b then t1 else { t1 with plain := false })
      if !false && (if b then t1 else { t1 with plain := false }).tooFull then setRelay a (SetTable.grown (es.size + 1))
      return true) Q E s := by
    intro b
    have hin : (SetTable.insertAt es (SetTable.below t.place (way t.mask (k.hash w) K)) (k.hash w, Value.ref x)).toList = rowN w (L.take (SetTable.below t.place (way t.mask (k.hash w) K)) ++ (x, k) :: L.drop (SetTable.below t.place (way t.mask (k.hash w) K))) := by
      rw [SetTable.toList_insertAt, R.rows]
      unfold rowN
      rw [List.map_append, List.map_cons, List.map_take, List.map_drop]
    generalize hpp : SetTable.below t.place (way t.mask (k.hash w) K) = p at q2 q3 hin ⊢
    have pm := put_perm L p (x, k)
    have hlen : (L.take p ++ (x, k) :: L.drop p).length = L.length + 1 := pm.length_eq
    have hhs : (L.take p ++ (x, k) :: L.drop p).map (fun p => p.2.hash w) = (L.map fun p => p.2.hash w).take p ++ k.hash w :: (L.map fun p => p.2.hash w).drop p := by
      rw [List.map_append, List.map_cons, List.map_take, List.map_drop]
    rw [← hhs] at q3
    have nd1 : ((L.take p ++ (x, k) :: L.drop p).map (·.2)).Nodup := by
      refine (pm.map (·.2)).nodup_iff.mpr ?_
      rw [List.map_cons]
      exact List.nodup_cons.mpr ⟨hm, R.nd⟩
    have hes := size_of_rows hin
    rw [hlen] at hes
    generalize SetTable.insertAt es p (k.hash w, Value.ref x) = es1 at hin hes ⊢
    generalize L.take p ++ (x, k) :: L.drop p = L1 at pm hlen q3 nd1 hin
    obtain ⟨t2, et2, T2, m2, l2, f2⟩ : ∃ t2 : SetTable, (if b = true then t1 else { t1 with plain := false }) = t2 ∧ TabOk t2 (L1.map fun p => p.2.hash w) ∧ t2.mask = t1.mask ∧ t2.led = t1.led ∧ t2.tooFull = t1.tooFull := by
      cases b with
      | true => exact ⟨t1, rfl, q3, rfl, rfl, rfl⟩
      | false => exact ⟨_, rfl, TabOk.plain q3 false, rfl, rfl, rfl⟩
    rw [et2]
    refine wpAny_bind (wpAny_storeSet_of ho hd ?_ (by rw [hes, sizeLine_eq]; omega))
    have sb : Heap.SameBut a s.heap (s.heap.update a (Obj.putSet es1 t2)) := Heap.SameBut.update ..
    have ho1 := store_at (es' := es1) (t' := t2) ho hd
    generalize s.heap.update a (Obj.putSet es1 t2) = h1 at sb ho1 ⊢
    have tup1 : ∀ p ∈ L1, NT P w h1 p.2 p.1 := fun p hp => by
      rcases List.mem_cons.mp (pm.mem_iff.mp hp) with e | hp
      · rw [e]; exact hx.same ho hd sb
      · exact (R.tup p hp).same ho hd sb
    have ld1 : w.params.followText "set-order" = true ∨ t2.led = true := by rw [l2, q5]; exact R.led
    have full : t1.tooFull = decide ((L.length + 1) * 5 ≥ t1.mask * 3) := by
      unfold SetTable.tooFull
      rw [q9, List.length_map]
    by_cases hf : (L.length + 1) * 5 ≥ t1.mask * 3
    · have hft : t2.tooFull = true := by rw [f2, full]; exact decide_eq_true hf
      first
        | (refine wpAny_bind ?_; refine wp_if_pos (by simp [hft]) ?_)
        | (refine wp_if_pos (by simp [hft]) ?_; refine wpAny_bind ?_)
      rw [hsl]
      have hsz1 : t2.place.size = L1.length := by
        have h := T2.sz
        rwa [List.length_map] at h
      have cases2 : (t.mask = 7 ∧ L.length = 4) ∨ (t.mask = 31 ∧ L.length = 18) := by
        rcases R.tab.mok with e | e | e
        · left; rw [q4, e] at hf; rw [e] at hroom; exact ⟨e, by omega⟩
        · right; rw [q4, e] at hf; rw [e] at hroom; exact ⟨e, by omega⟩
        · exfalso; rw [q4, e] at hf; omega
      have big : ∀ M, SetTable.sizeAbove (SetTable.grown (L.length + 1)) - 1 = M → MaskOk M → SetTable.sizeAbove (SetTable.grown (L.length + 1)) ≤ 128 → (L.length + 1) * 5 < M * 3 →
          wpAny (model P w) A (setRelay a (SetTable.grown (L.length + 1))) (fun _ s' => wpAny (model P w) A (pure true) Q E s') E { s with heap := h1 } := fun M h1' h2' h3' h4' =>
        relayN (s := { s with heap := h1 }) ho1 ⟨hex.1, hex.2.1, hex.2.2⟩ rfl hin hsz1 T2.dm (by rw [hlen, m2, q4]; rcases cases2 with ⟨e, e2⟩ | ⟨e, e2⟩ <;> omega) nd1 tup1 ld1 (by rw [hlen]; exact few1) h1' h2' h3' (by rw [hlen]; exact h4')
          fun h2 L2 es2 ep2 t2 sb2 R2 pm2 => wpAny_pure (hQ true h2 L2 es2 ep2 t2 (sb.trans sb2) R2 (fun z => absurd z hm) fun _ => pm2.trans pm)
      rcases cases2 with ⟨_, e2⟩ | ⟨_, e2⟩
      · exact big 31 (by rw [e2, size_20]) (.inr (.inl rfl)) (by rw [e2, size_20]; decide) (by omega)
      · exact big 127 (by rw [e2, size_76]) (.inr (.inr rfl)) (by rw [e2, size_76]; decide) (by omega)
    · have hft : t2.tooFull = false := by rw [f2, full]; exact decide_eq_false hf
      first
        | refine wp_if_neg (by simp [hft]) ?_
        | (refine wpAny_bind ?_; refine wp_if_neg (by simp [hft]) ?_; refine wpAny_pure ?_)
      exact wpAny_pure (hQ true h1 L1 es1 (ep + 1) t2 sb ⟨⟨_, ho1, ⟨hex.1, hex.2.1, hex.2.2⟩, rfl⟩, hin, T2, nd1, tup1, ld1, by rw [hlen, m2]; omega, by rw [hlen]; exact few1⟩ (fun z => absurd z hm) fun _ => pm)
  by_cases hpl : t1.plain = true
  · first
      | (refine wpAny_bind ?_; refine wp_if_pos hpl ?_; exact hbN_key _ _ 8 _ hx.1 hx.2 _ _ _ go)
      | exact wp_if_pos hpl (wpAny_bind (hbN_key _ _ 8 _ hx.1 hx.2 _ _ _ go))
  · first
      | (refine wpAny_bind ?_; refine wp_if_neg hpl ?_; exact wpAny_pure (go true))
      | exact wp_if_neg hpl (go true)
      | exact wp_if_neg hpl (wpAny_bind (wpAny_pure (go true)))
end

/-! ### set(xs) -/
/-- the set holds just the keys of the first i items -/
structure GotN (ks : List (Addr × NestedKey)) (i : Nat) (L : List (Addr × NestedKey)) : Prop where
  sub : ∀ p ∈ L, p ∈ ks.take i
  all : ∀ p ∈ ks.take i, p.2 ∈ L.map (·.2)
/-- there are fewer than 64 different keys -/
def FewN (ks : List (Addr × NestedKey)) : Prop := ∀ L : List (Addr × NestedKey), (L.map (·.2)).Nodup → (∀ p ∈ L, p ∈ ks) → L.length < 64
theorem take_succ' {α : Type} {l : List α} {i : Nat} {x : α} (h : l[i]? = some x) : l.take (i + 1) = l.take i ++ [x] := by
  rw [List.take_succ, h]
  rfl
theorem GotN.step {ks L L' : List (Addr × NestedKey)} {i : Nat} {x : Addr × NestedKey} (g : GotN ks i L) (h : ks[i]? = some x) (h1 : x.2 ∈ L.map (·.2) → L' = L) (h2 : x.2 ∉ L.map (·.2) → L'.Perm (x :: L)) : GotN ks (i + 1) L' := by
  rw [show GotN ks (i + 1) L' ↔ ((∀ p ∈ L', p ∈ ks.take (i + 1)) ∧ ∀ p ∈ ks.take (i + 1), p.2 ∈ L'.map (·.2)) from ⟨fun g => ⟨g.1, g.2⟩, fun g => ⟨g.1, g.2⟩⟩, take_succ' h]
  by_cases c : x.2 ∈ L.map (·.2)
  · rw [h1 c]
    refine ⟨fun p hp => List.mem_append_left _ (g.sub p hp), fun p hp => ?_⟩
    rcases List.mem_append.mp hp with z | z
    · exact g.all p z
    · rw [List.mem_singleton.mp z]; exact c
  · have pm := h2 c
    refine ⟨fun p hp => ?_, fun p hp => ?_⟩
    · rcases List.mem_cons.mp (pm.mem_iff.mp hp) with e | z
      · exact List.mem_append_right _ (List.mem_singleton.mpr e)
      · exact List.mem_append_left _ (g.sub p z)
    · rw [(pm.map (·.2)).mem_iff, List.map_cons]
      rcases List.mem_append.mp hp with z | z
      · exact List.mem_cons_of_mem _ (g.all p z)
      · rw [List.mem_singleton.mp z]; exact List.mem_cons_self
section
variable {P : Program} {w : World} {A : Around} {E : Value → Shared → Prop} {s : Shared}
theorem SetN.keep {h h' : Heap} {a : Addr} {L : List (Addr × NestedKey)} {es : Array (Int × Value)} {ep : Nat} {t : SetTable} (R : SetN P w h a L es ep t) (ha : ∀ o, h.get? a = some o → h'.get? a = some o) (ht : ∀ p ∈ L, NT P w h' p.2 p.1) : SetN P w h' a L es ep t := by
  obtain ⟨o, ho, r⟩ := R.ob
  exact ⟨⟨o, ha o ho, r⟩, R.rows, R.tab, R.nd, ht, R.led, R.room, R.few⟩
def newSetObj (w : World) : Obj := { cls := .type "set", dict := none, data := .set #[] 0 (.fresh 0 0 (!w.params.followText "set-order")) }
theorem setN_fresh {h : Heap} {a : Addr} (ho : h.get? a = some (newSetObj w)) : SetN P w h a [] #[] 0 (.fresh 0 0 (!w.params.followText "set-order")) where
  ob := ⟨_, ho, ⟨rfl, rfl, rfl⟩, rfl⟩
  rows := rfl
  tab := ⟨List.Pairwise.nil, rfl, rfl, .inl rfl, fun x hx => (by cases hx), fun i h j hi => (by simp at hi)⟩
  nd := List.nodup_nil
  tup := fun p hp => (by cases hp)
  led := by
    show _ ∨ (!w.params.followText "set-order") = true
    cases w.params.followText "set-order"
    · exact .inr rfl
    · exact .inl rfl
  room := by
    show 0 * 5 < 7 * 3
    decide
  few := by
    show 0 < 64
    decide
/-- the loop of set.update -/
theorem set_loopN {I : Addr} {fp wr : List Addr} {G : Array GenState → Array GenState → Prop} {n : Nat} {Pv : Nat → Value → Prop} {St : Nat → Shared → Prop} {R : Result → Shared → Prop}
    (W : WalksS P w A.in1 I fp wr G n Pv St) (S : Addr) (hSf : S ∉ fp) (ks : List (Addr × NestedKey)) (hn : n = ks.length) (hfew : FewN ks) (hval : ∀ i v, Pv i v → ∃ p, ks[i]? = some p ∧ v = .ref p.1)
    (h0 : Heap) (hk : ∀ p ∈ ks, NT P w h0 p.2 p.1) (hS0 : h0.get? S = none) (hw0 : ∀ b ∈ wr, h0.get? b = none) (hu : (nestedKind P w).room A.in1) :
    ∀ (m i : Nat) (s : Shared), i + m = n → St i s → (∀ b o, h0.get? b = some o → s.heap.get? b = some o) → (∃ L es ep t, SetN P w s.heap S L es ep t ∧ GotN ks i L) →
      (∀ s' L es ep t, Moved (S :: wr) G s s' → SetN P w s'.heap S L es ep t → GotN ks n L → (∀ b o, h0.get? b = some o → s'.heap.get? b = some o) → R (.ok (.ret .none)) s') →
      codeAny (model P w) A (.builtin "set.update.loop" ⟨[.ref S, .ref I], []⟩) R s := by
  have hSw : S ∉ wr := fun h => hSf (W.sub _ h)
  have hsub : ∀ b ∈ wr, b ∈ S :: wr := fun b hb => List.mem_cons_of_mem _ hb
  have keepM : ∀ {s s' : Shared}, Moved wr G s s' → (∀ b o, h0.get? b = some o → s.heap.get? b = some o) → ∀ b o, h0.get? b = some o → s'.heap.get? b = some o := fun hm hkp b o e =>
    hm.heap b o (fun hb => by rw [hw0 b hb] at e; cases e) (hkp b o e)
  intro m
  induction m with
  | zero =>
    intro i s hi hst hkp ⟨L, es, ep, t, hS, g⟩ hR
    obtain rfl : i = n := hi
    refine codeAny_builtin F.entry_set_update_loop ?_
    rw [Around.under_plainId F.plain_set_update_loop _]
    show wpAny _ A.in1 (pyNext (.ref I) >>= _) _ _ s
    refine wpAny_bind (W.done s _ _ hst fun s' hm => ?_)
    show wpAny _ A.in1 (ret Value.none) _ _ s'
    have hkp' := keepM hm hkp
    exact wpAny_pure (hR s' L es ep t (hm.mono hsub) (hS.keep (fun o e => hm.heap S o hSw e) fun p hp => (hk p (List.mem_of_mem_take (g.sub p hp))).at hkp') g hkp')
  | succ m ih =>
    intro i s hi hst hkp ⟨L, es, ep, t, hS, g⟩ hR
    have hlt : i < n := by omega
    refine codeAny_builtin F.entry_set_update_loop ?_
    rw [Around.under_plainId F.plain_set_update_loop _]
    show wpAny _ A.in1 (pyNext (.ref I) >>= _) _ _ s
    refine wpAny_bind (W.item i s _ _ hlt hst fun v s' hP hst' hm => ?_)
    obtain ⟨p, hp, rfl⟩ := hval i v hP
    have hkp' := keepM hm hkp
    have hin : ∀ q ∈ L, q ∈ ks := fun q hq => List.mem_of_mem_take (g.sub q hq)
    have hpk := List.mem_of_getElem? hp
    have hS' : SetN P w s'.heap S L es ep t := hS.keep (fun o e => hm.heap S o hSw e) fun q hq => (hk q (hin q hq)).at hkp'
    have hx : NT P w s'.heap p.2 p.1 := (hk p hpk).at hkp'
    show wpAny _ A.in1 (holding [Value.ref p.1] (setAdd S (.ref p.1)) >>= _) _ _ s'
    refine wpAny_bind (wpAny_holding ?_)
    unfold setAdd
    refine wpAny_holding ?_
    refine wpAny_bind ((nestedKind P w).pyHash hu hx ?_)
    refine addN (s := { s' with toks := s'.toks + (nestedKind P w).draws p.2 }) hS' hx hu (fun hm => hfew (p :: L) (List.nodup_cons.mpr ⟨hm, hS'.nd⟩) fun q hq => ?_) fun b h' L' es' ep' t' hsb hS2 c1 c2 => ?_
    · rcases List.mem_cons.mp hq with e | z
      · rw [e]; exact hpk
      · exact hin q z
    have hkp2 : ∀ b o, h0.get? b = some o → h'.get? b = some o := fun b o e => (hsb.2 b (fun z => by rw [z, hS0] at e; cases e)).trans (hkp' b o e)
    refine wpAny_pure ⟨plainId_quiet F.plain_set_update_loop _, ih (i + 1) _ (by omega) (W.frame _ s' _ _ hst' (Nat.le_add_right _ _) fun b hb o e => ?_) hkp2 ⟨L', es', ep', t', hS2, g.step hp c1 c2⟩ fun s'' L2 es2 ep2 t2 hm'' hS'' g'' hkp'' => ?_⟩
    · rw [hsb.2 b (fun h : b = S => hSf (by rw [← h]; exact hb))]; exact e
    · refine hR s'' L2 es2 ep2 t2 (Moved.trans W.gtrans ((hm.mono hsub).then_heap (Nat.le_add_right _ _) fun b o hb e => ?_) hm'') hS'' g'' hkp''
      rw [hsb.2 b (fun h : b = S => hb (by rw [h]; exact List.mem_cons_self))]; exact e

set_option maxRecDepth 100000 in
set_option maxHeartbeats 3200000 in
theorem call_setN {l : Addr} {items : Array Value} (ks : List (Addr × NestedKey)) {Q : Value → Shared → Prop} (hh : A.handled = none) (hl : s.heap.IsList l items) (hit : items.toList = ks.map fun p => Value.ref p.1)
    (hk : ∀ p ∈ ks, NT P w s.heap p.2 p.1) (hfew : FewN ks) (hu : A.units + 16 < cLine)
    (h : ∀ (h' : Heap) (tk : Nat) L es ep t, SetN P w h' s.heap.objs.size L es ep t → GotN ks ks.length L → (∀ b o, s.heap.get? b = some o → h'.get? b = some o) → Q (.ref s.heap.objs.size) { s with heap := h', toks := tk }) :
    wpAny (model P w) A (call (.type "set") [.ref l]) Q E s := by
  have hisz : items.size = ks.length := by
    have q := congrArg List.length hit
    rwa [Array.length_toList, List.length_map] at q
  obtain ⟨c, tl, hmro⟩ := F.called_set.mro
  have hmade := F.called_set.made
  have hsub := F.called_set.sub
  refine wpAny_call (codeAny_of_tree ?_)
  show wpAny _ _ (callAny (.type "set") _) _ _ _
  refine wpAny_pure ⟨Code.quiet_builtin _ (by decide +kernel), codeAny_builtin F.entry_type_call ?_⟩
  rw [Around.under_plain (weight_type_call_type "set" [.ref l] []) rfl]
  have h1 := F.called_set.notType
  have h2 := F.called_set.canCreate
  have hct := F.typeCall_set_1 (.ref l)
  repeat (any_goals (first | assumption | wp_step))
  refine codeAny_mono (code_set_led1 (.ref l) (E := E) (Q₁ := fun obj s₁ => obj = .ref s.heap.objs.size ∧ s₁ = { s with heap := s.heap.push (newSetObj w) }) ⟨rfl, rfl⟩) fun r s₁ hr => ?_
  cases r with
  | error e => exact hr
  | ok fl =>
    cases fl with
    | ret obj =>
      obtain ⟨rfl, rfl⟩ := hr
      have hS : (s.heap.push (newSetObj w)).get? s.heap.objs.size = some (newSetObj w) := Heap.get?_push_size _ rfl
      have hT : Shared.TypeIs { s with heap := s.heap.push (newSetObj w) } (.ref s.heap.objs.size) "set" := ⟨_, hS, rfl⟩
      have hli := F.called_set.init.lookup
      have hbi := F.called_set.init.bind (.ref s.heap.objs.size)
      repeat (any_goals (first | assumption | wp_step))
      refine codeAny_mono (codeAny_call_builtin (R := wants (fun r s₂ => r = .none ∧ ∃ h' tk L es ep t, s₂ = { s with heap := h', toks := tk } ∧ SetN P w h' s.heap.objs.size L es ep t ∧ GotN ks ks.length L ∧
          (∀ b o, s.heap.get? b = some o → h'.get? b = some o)) E) F.called_set.init.plain F.entry_set_init (check_set_init_1 hT ?_)) fun r₂ s₂ hr₂ => ?_
      · obtain ⟨ol, hol, hcl, nl, hdl⟩ := hl
        obtain ⟨ocls, odict, odata, oslots⟩ := ol
        simp only at hcl hdl
        subst hcl; subst hdl
        have hol' : (s.heap.push (newSetObj w)).get? l = some { cls := .type "list", dict := odict, data := .seq items nl, slots := oslots } := Heap.get?_push_of_some _ hol
        have hsls := F.sub_list_set
        have hslf := F.sub_list_frozenset
        have hne : (Value.type "list" == Value.type "dict") = false := by decide
        have hl1 : (s.heap.push (newSetObj w)).IsList l items := ⟨_, hol', rfl, nl, rfl⟩
        unfold Builtin.«set.__init__» noKeywords Builtin.Frozenset.updateFrom
        generalize hPI : pyIter = PI
        wp_walk
        subst hPI
        refine wpAny_pyIter_list hl1 ?_
        refine wpAny_bind (wpAny_runValue ?_)
        have hlS : l < s.heap.objs.size := Heap.lt_size hol
        have hh3 : A.in1.in1.in1.handled = none := by simp [hh]
        have hneI : l ≠ (s.heap.push (newSetObj w)).objs.size := by
          rw [Heap.size_push]; exact Nat.ne_of_lt (Nat.lt_succ_of_lt hlS)
        have hSf : s.heap.objs.size ∉ [(s.heap.push (newSetObj w)).objs.size, l] := by
          rw [Heap.size_push]; simp only [List.mem_cons, List.mem_singleton, List.not_mem_nil, or_false, not_or]
          exact ⟨Nat.ne_of_lt (Nat.lt_succ_self _), Nat.ne_of_gt hlS⟩
        have hval : ∀ (i : Nat) (v : Value), items[i]? = some v → ∃ p, ks[i]? = some p ∧ v = .ref p.1 := fun i v hv => by
          have q : items.toList[i]? = some v := by rw [Array.getElem?_toList]; exact hv
          rw [hit, List.getElem?_map] at q
          cases hq : ks[i]? with
          | none => rw [hq] at q; cases q
          | some p =>
            rw [hq] at q
            exact ⟨p, rfl, (Option.some.inj q).symm⟩
        have none_of : ∀ b, s.heap.objs.size ≤ b → s.heap.get? b = none := fun b hb => by
          cases q : s.heap.get? b with
          | none => rfl
          | some o => exact absurd (Nat.lt_of_lt_of_le (Heap.lt_size q) hb) (Nat.lt_irrefl _)
        refine set_loopN ((Walks.list hh3 _ l hneI items).toS) s.heap.objs.size
          hSf ks hisz hfew hval s.heap hk (none_of _ (Nat.le_refl _)) (fun b hb => none_of b (by
            rw [List.mem_singleton.mp hb, Heap.size_push]
            exact Nat.le_succ _)) (by show A.units + 1 + 1 + 1 + 8 < cLine; omega) items.size 0 _ (by omega)
          ⟨⟨_, Heap.get?_push_size _ rfl, rfl, rfl⟩, (hl1.push _)⟩ (fun b o e => Heap.get?_push_of_some _ (Heap.get?_push_of_some _ e)) ?hS0 ?hR
        case hS0 =>
          have hget : ((s.heap.push (newSetObj w)).push { cls := .type "list_iterator", data := .fields #[.ref l, .int 0 0] }).get? s.heap.objs.size = some (newSetObj w) := Heap.get?_push_of_some _ hS
          exact ⟨[], #[], 0, _, setN_fresh hget, ⟨fun p h => (by cases h), fun p h => (by simp at h)⟩⟩
        case hR =>
          intro s' L es ep t hm hS' g' hkp
          obtain ⟨h', g2, d', tk', os'⟩ := s'
          have eg : g2 = s.gens := hm.gens
          have ed : d' = s.drawn := hm.drawn
          have eo : os' = s.os := hm.os
          subst eg; subst ed; subst eo
          show wpAny _ _ _ _ _ _
          refine wpAny_pure ?_
          show wpAny _ _ (ret Value.none) _ _ _
          rw [hisz] at g'
          exact wpAny_pure ⟨rfl, h', tk', L, es, ep, t, rfl, hS', g', hkp⟩
      · cases r₂ with
        | error e => exact hr₂
        | ok fl₂ =>
          cases fl₂ with
          | ret r =>
            obtain ⟨rfl, h', tk, L, es, ep, t, rfl, hS', g', hk'⟩ := hr₂
            repeat (any_goals (first | assumption | wp_step))
            exact h _ _ _ _ _ _ hS' g' hk'
          | _ => exact hr₂.elim
    | _ => exact hr.elim
end
end Ip

/-! IpY: numbers, texts and tuples of such: equality, order, each one once. -/
namespace Ip
open PySem PySem.Spec PyProof.Rows L2
theorem cano_hsh : ∀ (n : Nat) (d : D), cano n d = true → hsh n d = true
  | n, .int _, _ => by cases n <;> rfl
  | n, .str _, _ => by cases n <;> rfl
  | n + 1, .tup xs, h => by
    simp only [cano, hsh, List.all_eq_true] at h ⊢
    exact fun x hx => cano_hsh n x (h x hx)
  | 0, .tup _, h | 0, .non, h | 0, .bl _, h | 0, .lst _, h | 0, .dic _, h | 0, .set _, h | 0, .box, h | 0, .fn _, h => by simp [cano] at h
  | n + 1, .non, h | n + 1, .bl _, h | n + 1, .lst _, h | n + 1, .dic _, h | n + 1, .set _, h | n + 1, .box, h | n + 1, .fn _, h => by simp [cano] at h
mutual
theorem eqD_cano : ∀ (x y : D) (n m : Nat), cano n x = true → cano m y = true → (eqD x y = true ↔ x = y)
  | .int i, y, n, m, h1, h2 => by cases y <;> cases m <;> simp_all [eqD, cano]
  | .str i, y, n, m, h1, h2 => by cases y <;> cases m <;> simp_all [eqD, cano]
  | .tup xs, y, n, m, h1, h2 => by
    cases n with
    | zero => simp [cano] at h1
    | succ n =>
      cases m with
      | zero => cases y <;> simp_all [eqD, cano]
      | succ m =>
        cases y with
        | tup ys =>
          simp only [cano] at h1 h2
          simp only [eqD, D.tup.injEq]
          exact eqDs_cano xs ys n m h1 h2
        | _ => simp_all [eqD, cano]
  | .non, _, n, _, h, _ | .bl _, _, n, _, h, _ | .lst _, _, n, _, h, _ | .dic _, _, n, _, h, _ | .set _, _, n, _, h, _ | .box, _, n, _, h, _ | .fn _, _, n, _, h, _ => by cases n <;> simp [cano] at h
theorem eqDs_cano : ∀ (xs ys : List D) (n m : Nat), xs.all (cano n) = true → ys.all (cano m) = true → (eqDs xs ys = true ↔ xs = ys)
  | [], [], _, _, _, _ => by simp [eqDs]
  | [], _ :: _, _, _, _, _ => by simp [eqDs]
  | _ :: _, [], _, _, _, _ => by simp [eqDs]
  | x :: xs, y :: ys, n, m, h1, h2 => by
    rw [List.all_cons, Bool.and_eq_true] at h1 h2
    simp only [eqDs, Bool.and_eq_true, List.cons.injEq]
    rw [eqD_cano x y n m h1.1 h2.1, eqDs_cano xs ys n m h1.2 h2.2]
end
theorem tri_N : ∀ (s t : List Nat), ltN s t = false → ltN t s = false → s = t
  | [], [], _, _ => rfl
  | [], _ :: _, h, _ => by simp [ltN] at h
  | _ :: _, [], _, h => by simp [ltN] at h
  | x :: s, y :: t, h1, h2 => by
    rw [ltN] at h1 h2
    by_cases e : x = y
    · subst e
      rw [if_pos rfl] at h1 h2
      rw [tri_N s t h1 h2]
    · rw [if_neg e] at h1
      rw [if_neg (Ne.symm e)] at h2
      have h1 := of_decide_eq_false h1
      have h2 := of_decide_eq_false h2
      omega
mutual
theorem tri_D : ∀ (x y : D) (n m : Nat), cano n x = true → cano m y = true → alikeD x y = true → ltD x y = false → ltD y x = false → x = y
  | .int i, y, n, m, h1, h2, ha, l1, l2 => by
    cases y <;> simp only [alikeD, reduceCtorEq, Bool.false_eq_true] at ha
    rename_i j
    simp only [ltD, decide_eq_false_iff_not] at l1 l2
    congr 1
    omega
  | .str i, y, n, m, h1, h2, ha, l1, l2 => by
    cases y <;> simp only [alikeD, reduceCtorEq, Bool.false_eq_true] at ha
    simp only [ltD] at l1 l2
    rw [tri_N _ _ l1 l2]
  | .tup xs, y, n, m, h1, h2, ha, l1, l2 => by
    cases y <;> simp only [alikeD, reduceCtorEq, Bool.false_eq_true] at ha
    cases n with
    | zero => simp [cano] at h1
    | succ n =>
      cases m with
      | zero => simp [cano] at h2
      | succ m =>
        simp only [cano] at h1 h2
        simp only [ltD] at l1 l2
        rw [tri_Ds xs _ n m h1 h2 ha l1 l2]
  | .non, _, n, _, h, _, _, _, _ | .bl _, _, n, _, h, _, _, _, _ | .lst _, _, n, _, h, _, _, _, _ | .dic _, _, n, _, h, _, _, _, _ | .set _, _, n, _, h, _, _, _, _ | .box, _, n, _, h, _, _, _, _ | .fn _, _, n, _, h, _, _, _, _ => by cases n <;> simp [cano] at h
theorem tri_Ds : ∀ (xs ys : List D) (n m : Nat), xs.all (cano n) = true → ys.all (cano m) = true → alikeDs xs ys = true → ltDs xs ys = false → ltDs ys xs = false → xs = ys
  | [], [], _, _, _, _, _, _, _ => rfl
  | [], _ :: _, _, _, _, _, _, h, _ => by simp [ltDs] at h
  | _ :: _, [], _, _, _, _, _, _, h => by simp [ltDs] at h
  | x :: xs, y :: ys, n, m, h1, h2, ha, l1, l2 => by
    rw [List.all_cons, Bool.and_eq_true] at h1 h2
    simp only [alikeDs, Bool.and_eq_true] at ha
    rw [ltDs] at l1 l2
    by_cases e : eqD x y = true
    · have exy := (eqD_cano x y n m h1.1 h2.1).mp e
      subst exy
      rw [if_pos e] at l1 l2
      rw [tri_Ds xs ys n m h1.2 h2.2 ha.2 l1 l2]
    · have ne : ¬ eqD y x = true := fun z => e ((eqD_cano x y n m h1.1 h2.1).mpr ((eqD_cano y x m n h2.1 h1.1).mp z).symm)
      rw [if_neg e] at l1
      rw [if_neg ne] at l2
      exact absurd ((eqD_cano x y n m h1.1 h2.1).mpr (tri_D x y n m h1.1 h2.1 ha.1 l1 l2)) e
end
theorem dedup_spec {xs : List D} (hc : ∀ x ∈ xs, ∃ n, cano n x = true) : (dedupD xs).Nodup ∧ ∀ x, x ∈ dedupD xs ↔ x ∈ xs := by
  have key : ∀ (l acc : List D), (∀ x ∈ l, ∃ n, cano n x = true) → (∀ x ∈ acc, ∃ n, cano n x = true) → acc.Nodup →
      (l.foldl (fun acc x => if acc.any fun y => eqD y x then acc else acc ++ [x]) acc).Nodup ∧ ∀ x, x ∈ l.foldl (fun acc x => if acc.any fun y => eqD y x then acc else acc ++ [x]) acc ↔ x ∈ acc ∨ x ∈ l := by
    intro l
    induction l with
    | nil => intro acc _ _ h; exact ⟨h, fun x => by simp⟩
    | cons z l ih =>
      intro acc h1 h2 h3
      rw [List.foldl_cons]
      have hz := h1 z List.mem_cons_self
      have hl : ∀ x ∈ l, ∃ n, cano n x = true := fun x hx => h1 x (List.mem_cons_of_mem _ hx)
      have hm : (acc.any fun y => eqD y z) = true ↔ z ∈ acc := by
        rw [List.any_eq_true]
        constructor
        · rintro ⟨y, hy, e⟩
          obtain ⟨n, hn⟩ := h2 y hy
          obtain ⟨m, hm⟩ := hz
          rw [← (eqD_cano y z n m hn hm).mp e]
          exact hy
        · intro hy
          obtain ⟨m, hm⟩ := hz
          exact ⟨z, hy, (eqD_cano z z m m hm hm).mpr rfl⟩
      by_cases c : z ∈ acc
      · rw [if_pos (hm.mpr c)]
        obtain ⟨a, b⟩ := ih acc hl h2 h3
        refine ⟨a, fun x => (b x).trans ?_⟩
        constructor
        · rintro (h | h) <;> simp [h]
        · rintro (h | h)
          · exact .inl h
          · rcases List.mem_cons.mp h with rfl | h
            · exact .inl c
            · exact .inr h
      · rw [if_neg (fun z' => c (hm.mp z'))]
        obtain ⟨a, b⟩ := ih (acc ++ [z]) hl (fun x hx => by
          rcases List.mem_append.mp hx with h | h
          · exact h2 x h
          · rw [List.mem_singleton.mp h]; exact hz) (List.nodup_append.mpr ⟨h3, by simp, fun x hx y hy => by
            rw [List.mem_singleton.mp hy]
            exact fun e => c (e ▸ hx)⟩)
        refine ⟨a, fun x => (b x).trans ?_⟩
        simp only [List.mem_append, List.mem_cons, List.not_mem_nil, or_false]
        constructor
        · rintro ((h | h) | h) <;> simp [h]
        · rintro (h | h | h) <;> simp [h]
  obtain ⟨a, b⟩ := key xs [] hc (fun _ h => by cases h) List.nodup_nil
  exact ⟨a, fun x => (b x).trans (by simp)⟩
theorem sortable_perm {xs ys : List D} (p : xs.Perm ys) : sortable xs = sortable ys := by
  unfold sortable
  have e1 : (fun x => xs.all fun y => alikeD x y) = fun x => ys.all fun y => alikeD x y := funext fun x => p.all_eq
  rw [e1, p.all_eq, p.all_eq, p.all_eq, p.all_eq, p.all_eq, p.length_eq]
theorem sortD_perm {xs ys : List D} (hs : sortable xs = true) (hc : ∀ x ∈ xs, ∃ n, cano n x = true) (p : xs.Perm ys) : sortD xs = sortD ys := by
  have hy : sortable ys = true := by rw [← sortable_perm p]; exact hs
  have T := PySem.W.sortLe_total (PyProof.Rows.listOrd itemOrd) false fun b : D => PySem.W.keyToks b.py
  have hs0 := hs
  unfold sortable at hs
  simp only [Bool.and_eq_true, List.all_eq_true] at hs
  obtain ⟨⟨h1, h2⟩, _⟩ := hs
  rw [sortD_merge xs hs0, sortD_merge ys hy]
  refine List.Perm.eq_of_pairwise (le := fun a b => PySem.W.dataLe false D.py a b = true) (fun a b ha hb l1 l2 => ?_) (PySem.W.sort_pairwise T xs) (PySem.W.sort_pairwise T ys) ((List.mergeSort_perm xs _).trans (p.trans (List.mergeSort_perm ys _).symm))
  have ha' : a ∈ xs := (List.mergeSort_perm xs _).mem_iff.mp ha
  have hb' : b ∈ xs := p.mem_iff.mpr ((List.mergeSort_perm ys _).mem_iff.mp hb)
  have k1 : (!PySem.W.dataLt b.py a.py) = true := l1
  have k2 : (!PySem.W.dataLt a.py b.py) = true := l2
  rw [ltD_py 59 b a (h2 b hb') (h2 a ha') (h1 b hb' a ha')] at k1
  rw [ltD_py 59 a b (h2 a ha') (h2 b hb') (h1 a ha' b hb')] at k2
  obtain ⟨n, hn⟩ := hc a ha'
  obtain ⟨m, hm⟩ := hc b hb'
  exact tri_D a b n m hn hm (h1 a ha' b hb') (by simpa using k2) (by simpa using k1)
end Ip

/-! IpX: sorted(set(xs)), xs tuples. -/
namespace Ip
open PySem PySem.Spec PyProof.Rows L2
open PySem.W in
/-- sorted(x), whatever is collected from x -/
theorem sorted_any {β : Type} {prog : Program} {w : World} {A : Around} {E : Value → Shared → Prop} {s : Shared} {x : Value} {enc : β → PyData} {R : Value → β → Prop} {Q : Value → Shared → Prop}
    (hc : ∀ (Q' : List Value → Shared → Prop) (E' : Value → Shared → Prop),
      (∀ (s1 : Shared) (vs : List Value), (∃ bs : List β, EachIs R vs bs ∧ EachIs (fun v b => ∃ as, Reads s1.heap v (enc b) as) vs bs ∧ AllAlike (bs.map enc) ∧ (Sortable (bs.map enc) ∨ (vs.length ≤ 1 ∧ ∀ d, d ∈ bs.map enc → d ≠ .none)) ∧ bs.length ≤ sizeLine ∧ (∀ b, b ∈ bs → A.units + 2 + (enc b).depth < cLine) ∧
        ∀ (h' : Heap) (tk : Nat) (out : List Value) (c : Nat), (∀ b o, s1.heap.get? b = some o → h'.get? b = some o) → h'.get? s1.heap.objs.size = some (seqObj "list" (List.toArray out) c) → out.length = bs.length → EachIs R out (bs.mergeSort (dataLe false enc)) → Q (.ref s1.heap.objs.size) { s1 with heap := h', toks := tk }) → Q' vs s1) →
      wpAny (model prog w) A.in1 (collect x) Q' E' s) :
    wpAny (model prog w) A (call (.builtin "sorted") [x]) Q E s := by
  refine call_function_entry_kw kind_sorted plain_sorted entry_sorted (args_sorted1 _) ?_
  unfold Builtin.«sorted»
  refine wpAny_bind (m := checkCount "sorted" 1 1 _) (wpAny_pure ?_)
  refine wpAny_bind (hc _ _ fun s1 vs hv => ?_)
  obtain ⟨bs, e, er, hal, hk, hL, hu, h⟩ := hv
  refine wpAny_bind (wpAny_newList ?_ (by rw [e.length]; exact hL))
  have k2 : ∀ b o, s1.heap.get? b = some o → (s1.heap.push { cls := .type "list", data := .seq vs.toArray }).get? b = some o := fun b o q => Heap.get?_push_of_some _ q
  have hob : (s1.heap.push { cls := .type "list", data := .seq vs.toArray }).get? s1.heap.objs.size = some (seqObj "list" vs.toArray 0) := Heap.get?_push_size _ rfl
  refine wpAny_bind (wpAny_holding ?_)
  show wpAny (model prog w) A.in1 (call (.builtin "list.sort") [.ref s1.heap.objs.size]) _ _ { s1 with heap := s1.heap.push { cls := .type "list", data := .seq vs.toArray } }
  have er2 : EachIs (fun v b => ∃ as, Reads (s1.heap.push { cls := .type "list", data := .seq vs.toArray }) v (enc b) as ∧ s1.heap.objs.size ∉ as) vs bs := er.mono fun v b ⟨as, r⟩ => ⟨as, PyProof.Rows.Reads.keeps k2 r, fun hm => by
    have := reads_lt _ _ _ r _ hm
    exact absurd this (Nat.lt_irrefl _)⟩
  refine list_sort_data1 (s := { s1 with heap := s1.heap.push { cls := .type "list", data := .seq vs.toArray } }) hob e er2 hal hk hL (fun b hb => by have := hu b hb; show A.units + 1 + 1 + _ < cLine; omega) fun out hout ho => ?_
  refine wpAny_pure ⟨_, rfl, ?_⟩
  obtain ⟨c, hc'⟩ := PyProof.Rows.sortedHeap_at (vs := vs) (out := out.toArray) hob
  refine h _ _ out c (fun b o q => ?_) hc' hout ho
  have hb : b ≠ s1.heap.objs.size := Nat.ne_of_lt (Heap.lt_size q)
  rw [PyProof.Rows.sortedHeap_old hb (Heap.lt_size (k2 b o q))]
  exact k2 b o q

theorem nodup_le {α : Type} [DecidableEq α] : ∀ (l m : List α), l.Nodup → (∀ x ∈ l, x ∈ m) → l.length ≤ m.length
  | [], _, _, _ => Nat.zero_le _
  | x :: l, m, h, hs => by
    obtain ⟨h1, h2⟩ := List.nodup_cons.mp h
    have hx := hs x List.mem_cons_self
    have := nodup_le l (m.erase x) h2 fun y hy => (List.mem_erase_of_ne (fun e : y = x => h1 (e ▸ hy))).mpr (hs y (List.mem_cons_of_mem _ hy))
    rw [List.length_erase_of_mem hx] at this
    have : 0 < m.length := List.length_pos_of_mem hx
    rw [List.length_cons]
    omega
theorem isCT_iff {d : D} : isCT d = true ↔ isTupD d = true ∧ cano 8 d = true := by unfold isCT; rw [Bool.and_eq_true]
theorem isCT_TK {d : D} (h : isCT d = true) : isTK d = true := by
  obtain ⟨h1, h2⟩ := isCT_iff.mp h
  unfold isTK
  rw [h1, cano_hsh 8 d h2]
  rfl
theorem nkD_inj {x y : D} (h1 : isCT x = true) (h2 : isCT y = true) (e : nkD x = nkD y) : x = y := by
  obtain ⟨_, c1⟩ := isCT_iff.mp h1
  obtain ⟨_, c2⟩ := isCT_iff.mp h2
  refine (eqD_cano x y 8 8 c1 c2).mp ?_
  rw [eqD_nk 8 8 x y (cano_hsh 8 x c1) (cano_hsh 8 y c2)]
  exact decide_eq_true e
section
variable {X : Cx} {W : Wd} {F : Addr → Prop} {H : Hp} {pins : List (Addr × Obj)} {σ : L2.St} {s : Shared}
theorem tri_of (hK : X.K = W.K) (I : Inv X pins σ H s) : ∀ {ds : List D} {vs : List V} {us : List Value}, ds.all isCT = true → RepL W F H ds vs → Vals vs us →
    ∃ tri : List (D × Addr), ds = tri.map (·.1) ∧ us = tri.map (fun q => Value.ref q.2) ∧ ∀ q ∈ tri, Rep W F H q.1 (.ref q.2) ∧ NT X.prog X.w s.heap (nkD q.1) q.2
  | [], vs, us, _, r, v => by
    simp only [RepL] at r
    subst r
    cases v
    exact ⟨[], rfl, rfl, fun q h => by cases h⟩
  | d :: ds, vs, us, h, r, v => by
    simp only [RepL] at r
    obtain ⟨x, vs', rfl, r1, r2⟩ := r
    rw [List.all_cons, Bool.and_eq_true] at h
    cases v with
    | cons a b =>
      obtain ⟨p, rfl, rfl, n⟩ := nested_key_of hK I (isCT_TK h.1) r1 a
      obtain ⟨tri, e1, e2, e3⟩ := tri_of hK I h.2 r2 b
      refine ⟨(d, p) :: tri, by rw [List.map_cons, ← e1], by rw [List.map_cons, ← e2], fun q hq => ?_⟩
      rcases List.mem_cons.mp hq with rfl | hq
      · exact ⟨r1, n⟩
      · exact e3 q hq
/-- the data behind what the set gives -/
theorem back_of {tri : List (D × Addr)} {L : List (Addr × NestedKey)} (hL : ∀ p ∈ L, ∃ q ∈ tri, p = (q.2, nkD q.1)) : ∀ (out : List Value), (∀ v ∈ out, ∃ p ∈ L, v = Value.ref p.1) → ∃ qs : List (D × Addr), out = qs.map (fun q => Value.ref q.2) ∧ ∀ q ∈ qs, q ∈ tri ∧ (q.2, nkD q.1) ∈ L
  | [], _ => ⟨[], rfl, fun q h => by cases h⟩
  | v :: out, h => by
    obtain ⟨p, hp, rfl⟩ := h v List.mem_cons_self
    obtain ⟨q, hq, rfl⟩ := hL p hp
    obtain ⟨qs, e1, e2⟩ := back_of hL out fun u hu => h u (List.mem_cons_of_mem _ hu)
    refine ⟨q :: qs, by rw [List.map_cons, ← e1], fun r hr => ?_⟩
    rcases List.mem_cons.mp hr with rfl | hr
    · exact ⟨hq, hp⟩
    · exact e2 r hr
/-- it is the data, each once, in some order -/
theorem back_perm {P : Program} {w : World} {h : Heap} {tri : List (D × Addr)} {L : List (Addr × NestedKey)} {qs : List (D × Addr)} (hct : ∀ q ∈ tri, isCT q.1 = true) (nd : (L.map (·.2)).Nodup) (tup : ∀ p ∈ L, NT P w h p.2 p.1)
    (all : ∀ q ∈ tri, nkD q.1 ∈ L.map (·.2)) (hq : ∀ q ∈ qs, q ∈ tri ∧ (q.2, nkD q.1) ∈ L) (pm : (qs.map fun q => Value.ref q.2).Perm (L.map fun p => Value.ref p.1)) : (qs.map (·.1)).Perm (dedupD (tri.map (·.1))) := by
  have hc : ∀ x ∈ tri.map (·.1), ∃ n, cano n x = true := fun x hx => by
    obtain ⟨q, hq, rfl⟩ := List.mem_map.mp hx
    exact ⟨8, (isCT_iff.mp (hct q hq)).2⟩
  obtain ⟨d1, d2⟩ := dedup_spec hc
  have key1 : ∀ p ∈ L, ∀ p' ∈ L, p.2 = p'.2 → p = p' := fun p hp p' hp' e => by
    obtain ⟨i, hi, ei⟩ := List.getElem_of_mem hp
    obtain ⟨j, hj, ej⟩ := List.getElem_of_mem hp'
    have : i = j := by
      have h1 : (L.map (·.2))[i]? = some p.2 := by rw [List.getElem?_map, List.getElem?_eq_getElem hi, ei]; rfl
      have h2 : (L.map (·.2))[j]? = some p.2 := by rw [List.getElem?_map, List.getElem?_eq_getElem hj, ej, e]; rfl
      exact (List.getElem?_inj (by rw [List.length_map]; exact hi) nd).mp (h1.trans h2.symm)
    subst this
    rw [← ei, ← ej]
  have nref : (L.map fun p => Value.ref p.1).Nodup := by
    have nL : L.Nodup := L2.nodup_of_map nd
    refine List.pairwise_map.mpr (List.Pairwise.imp_of_mem (fun {p p'} hp hp' ne e => ne ?_) nL)
    injection e with e
    have a1 := tup p hp
    have a2 := tup p' hp'
    rw [e] at a1
    exact key1 p hp p' hp' ((nestedKind P w).inj a1 a2)
  have nq : (qs.map fun q => Value.ref q.2).Nodup := pm.nodup_iff.mpr nref
  have nqs : qs.Nodup := L2.nodup_of_map nq
  have nb : (qs.map (·.1)).Nodup := by
    have ad : ∀ q ∈ qs, ∀ q' ∈ qs, q.1 = q'.1 → q = q' := fun q h1 q' h2 e => by
      have e2 := key1 _ (hq q h1).2 _ (hq q' h2).2 (by show nkD q.1 = nkD q'.1; rw [e])
      exact Prod.ext e (congrArg Prod.fst e2)
    exact List.pairwise_map.mpr (List.Pairwise.imp_of_mem (fun {q q'} h1 h2 ne e => ne (ad q h1 q' h2 e)) nqs)
  refine (List.perm_ext_iff_of_nodup nb d1).mpr fun x => ?_
  rw [d2]
  constructor
  · intro hx
    obtain ⟨q, h1, rfl⟩ := List.mem_map.mp hx
    exact List.mem_map.mpr ⟨q, (hq q h1).1, rfl⟩
  · intro hx
    obtain ⟨q, h1, rfl⟩ := List.mem_map.mp hx
    obtain ⟨p, hp, ep⟩ := List.mem_map.mp (all q h1)
    have : Value.ref p.1 ∈ qs.map fun q => Value.ref q.2 := pm.mem_iff.mpr (List.mem_map.mpr ⟨p, hp, rfl⟩)
    obtain ⟨q', h2, e2⟩ := List.mem_map.mp this
    injection e2 with e2
    have e3 : nkD q'.1 = p.2 := by
      have a1 := tup _ (hq q' h2).2
      have a2 := tup p hp
      rw [show ((q'.2, nkD q'.1) : Addr × NestedKey).1 = p.1 from e2] at a1
      exact (nestedKind P w).inj a1 a2
    have : q'.1 = q.1 := nkD_inj (hct _ (hq q' h2).1) (hct q h1) (e3.trans ep)
    exact List.mem_map.mpr ⟨q', h2, this⟩
end

/-! ### the rule -/
section
variable {S : Sc} {W : Wd} {G : Gl} {X : Cx} {x : Expr} {a : E} {pos : Pos}
theorem call_sset (hK : X.K = W.K) (hc : X.calm = true) (hu : X.A.units + 64 < cLine) {F : Addr → Prop} {H : Hp} {pins : List (Addr × Obj)} {σ : L2.St} {s : Shared} {Q : VK} {ds : List D} {v : V} {u : Value} (I : Inv X pins σ H s) (f2 : Fok F H) (h : Top W F H (.lst ds) v) (ru : RelV v u)
    (hct : ds.all isCT = true) (hs : sortable (dedupD ds) = true) (hf : (dedupD ds).length < 64) (q : ∀ v H', New W F H (.lst (sortD (dedupD ds))) v H' → Q v H') :
    wpAny (model X.prog X.w) X.A (call (.type "set") [u]) (fun b s' => wpAny (model X.prog X.w) X.A (call (.builtin "sorted") [b]) (EP X pins σ Q) X.xe s') X.xe s := by
  obtain ⟨l, vs, rfl, z, hl, rl⟩ := h
  cases ru
  obtain ⟨its, rv, plx, hz⟩ := I.list (SqL.of (K := X.K) hl)
  obtain ⟨tri, e1, e2, e3⟩ := tri_of hK I hct rl rv
  subst e1
  have hall : ∀ q ∈ tri, isCT q.1 = true := fun q hq => List.all_eq_true.mp hct _ (List.mem_map.mpr ⟨q, hq, rfl⟩)
  have hcano : ∀ x ∈ tri.map (·.1), ∃ n, cano n x = true := fun x hx => by
    obtain ⟨q, hq, rfl⟩ := List.mem_map.mp hx
    exact ⟨8, (isCT_iff.mp (hall q hq)).2⟩
  obtain ⟨dd1, dd2⟩ := dedup_spec hcano
  have hks : ∀ p ∈ tri.map (fun q => (q.2, nkD q.1)), ∃ q ∈ tri, p = (q.2, nkD q.1) := fun p hp => by
    obtain ⟨q, hq, rfl⟩ := List.mem_map.mp hp
    exact ⟨q, hq, rfl⟩
  refine call_setN (tri.map fun q => (q.2, nkD q.1)) (I.ok.hd hc) plx.isList (by rw [List.map_map]; simpa [Function.comp_def] using e2) (fun p hp => ?_) (fun L nd sub => ?_) (by omega) fun h' tk L es ep t R g k => ?_
  · obtain ⟨q, hq, rfl⟩ := hks p hp
    exact (e3 q hq).2
  · have : (L.map (·.2)).length ≤ ((dedupD (tri.map (·.1))).map nkD).length := by
      refine nodup_le _ _ nd fun k hk => ?_
      obtain ⟨p, hp, rfl⟩ := List.mem_map.mp hk
      obtain ⟨q, hq, rfl⟩ := hks p (sub p hp)
      exact List.mem_map.mpr ⟨q.1, (dd2 _).mpr (List.mem_map.mpr ⟨q, hq, rfl⟩), rfl⟩
    rw [List.length_map, List.length_map] at this
    omega
  have hLk : ∀ p ∈ L, ∃ q ∈ tri, p = (q.2, nkD q.1) := fun p hp => hks p (List.mem_of_mem_take (g.sub p hp))
  have hall2 : ∀ q ∈ tri, nkD q.1 ∈ L.map (·.2) := fun q hq => g.all (q.2, nkD q.1) (by rw [List.take_length]; exact List.mem_map.mpr ⟨q, hq, rfl⟩)
  obtain ⟨o, ho, hex, hd⟩ := R.ob
  refine sorted_any (R := fun u d => ∃ v, RelV v u ∧ Rep W F H d v) (enc := D.py) fun Q' E' hq' => ?_
  refine collect_set (A := X.A.in1) (I.ok.hd hc) ⟨o, ho, hex.1, hd⟩ (SetN.fits (s := { s with heap := h', toks := tk }) R) (by rw [size_of_rows R.rows]; have := R.few; unfold scanBound; omega) R.tab.ris R.led fun s1 out k1 hz1 g1 o1 pm => hq' s1 out ?_
  have pm' : out.Perm (L.map fun p => Value.ref p.1) := by
    have e : es.toList.map (·.2) = L.map fun p => Value.ref p.1 := by
      rw [R.rows]
      unfold rowN
      rw [List.map_map]
      rfl
    rw [e] at pm
    exact pm
  obtain ⟨qs, q1, q2⟩ := back_of hLk out fun v hv => by
    obtain ⟨p, hp, e⟩ := List.mem_map.mp (pm'.mem_iff.mp hv)
    exact ⟨p, hp, e.symm⟩
  have bp := back_perm hall R.nd R.tup hall2 q2 (by rw [← q1]; exact pm')
  have hsb : sortable (qs.map (·.1)) = true := by rw [sortable_perm bp]; exact hs
  have hcb : ∀ x ∈ qs.map (·.1), ∃ n, cano n x = true := fun x hx => hcano x ((dd2 x).mp (bp.mem_iff.mp hx))
  have hlen : (qs.map (·.1)).length < 64 := by rw [bp.length_eq]; exact hf
  have kk : ∀ b o, s.heap.get? b = some o → s1.heap.get? b = some o := fun b o e => k1 b o (k b o e)
  have hs0 := hsb
  unfold sortable at hsb
  simp only [Bool.and_eq_true, List.all_eq_true] at hsb
  obtain ⟨⟨h1, h2⟩, h3⟩ := hsb
  refine ⟨qs.map (·.1), ?_, ?_, ?_, ?_, by rw [sizeLine_eq]; omega, fun b hb => ?_, fun h2' tk2 out2 c kh hob hol hoe => ?_⟩
  · rw [q1]
    have gen : ∀ rs : List (D × Addr), (∀ r ∈ rs, r ∈ qs) → PySem.W.EachIs (fun u d => ∃ v, RelV v u ∧ Rep W F H d v) (rs.map fun q => Value.ref q.2) (rs.map (·.1)) := by
      intro rs
      induction rs with
      | nil => intro _; exact .nil
      | cons r rs ih => intro hr; exact .cons ⟨.ref r.2, rfl, (e3 r (q2 r (hr r List.mem_cons_self)).1).1⟩ (ih fun y hy => hr y (List.mem_cons_of_mem _ hy))
    exact gen qs fun _ h => h
  · rw [q1]
    have gen : ∀ rs : List (D × Addr), (∀ r ∈ rs, r ∈ qs) → PySem.W.EachIs (fun v b => ∃ as, Reads s1.heap v (D.py b) as) (rs.map fun q => Value.ref q.2) (rs.map (·.1)) := by
      intro rs
      induction rs with
      | nil => intro _; exact .nil
      | cons r rs ih =>
        intro hr
        have hm := hr r List.mem_cons_self
        obtain ⟨as, rd⟩ := reads_of hK I ((e3 r (q2 r hm).1).1).top (h2 _ (List.mem_map.mpr ⟨r, hm, rfl⟩)) (rfl : RelV (.ref r.2) (.ref r.2))
        exact .cons ⟨as, PyProof.Rows.Reads.keeps kk rd⟩ (ih fun y hy => hr y (List.mem_cons_of_mem _ hy))
    exact gen qs fun _ h => h
  · intro d hd e he
    obtain ⟨x, hx, rfl⟩ := List.mem_map.mp hd
    obtain ⟨y, hy, rfl⟩ := List.mem_map.mp he
    exact alike_py x y (h1 x hx y hy)
  · rw [Bool.or_eq_true, Bool.or_eq_true, List.all_eq_true, List.all_eq_true, Bool.and_eq_true, List.all_eq_true] at h3
    rcases h3 with (h3 | h3) | h3
    · refine .inl (.inl fun d hd => ?_)
      obtain ⟨x, hx, rfl⟩ := List.mem_map.mp hd
      have := h3 x hx
      cases x with
      | tup ys =>
        cases ys with
        | nil => cases this
        | cons y ys => exact ⟨_, _, rfl⟩
      | _ => cases this
    · refine .inl (.inr fun d hd => ?_)
      obtain ⟨x, hx, rfl⟩ := List.mem_map.mp hd
      have := h3 x hx
      cases x <;> simp_all [D.py, isAtom]
    · have hn := of_decide_eq_true h3.1
      refine .inr ⟨by rw [q1, List.length_map]; rw [List.length_map] at hn; omega, fun d hd => ?_⟩
      obtain ⟨x, hx, rfl⟩ := List.mem_map.mp hd
      have h4 := h3.2 x hx
      have h5 := h2 x hx
      cases x <;> first | (simp [pl] at h5; done) | (simp [isNon] at h4; done) | (intro z; cases z; done)
  · have := (pl_plain 59 b (h2 b hb)).2
    omega
  · rw [← sortD_merge _ hs0, sortD_perm hs0 hcb bp] at hoe
    obtain ⟨ws, w1, w2⟩ := of_each hoe
    have hz2 : h'.objs.size ≤ s1.heap.objs.size := hz1
    have hz3 : s.heap.objs.size < h'.objs.size := Heap.lt_size ho
    have hsz : s.heap.objs.size ≤ s1.heap.objs.size := Nat.le_trans (Nat.le_of_lt hz3) hz2
    have hfr : H s1.heap.objs.size = none := I.hok.fresh hsz
    have hwl : ws.length ≤ sizeLine := by rw [w2.length, sortD, sortB_len, sizeLine_eq]; omega
    have ka : ∀ b o, s.heap.get? b = some o → h2'.get? b = some o := fun b o e => kh b o (kk b o e)
    have J : Inv X pins σ (upd H s1.heap.objs.size (.lst ws)) { s with heap := h2', gens := s1.gens, drawn := s1.drawn, toks := tk2 } :=
      I.call (ch := []) (Un.laid ka hsz hfr) (I.hok.laid ka hsz ⟨hwl, out2, c, w1, hob⟩) (by rw [g1]; exact I.bare) (fun _ z => nomatch z)
    have e : ({ s1 with heap := h2', toks := tk2 } : Shared) = { s with heap := h2', gens := s1.gens, drawn := s1.drawn, toks := tk2 } := by
      cases s1
      cases s
      cases o1
      rfl
    rw [e]
    exact ⟨.ref _, _, J, rfl, q _ _ (.lst f2 hfr hwl w2)⟩
theorem meD_sset {d r : D} (h : meD .sset d [] = some r) : ∃ xs, d = .lst xs ∧ xs.all isCT = true ∧ sortable (dedupD xs) = true ∧ (dedupD xs).length < 64 ∧ r = .lst (sortD (dedupD xs)) := by
  cases d <;> simp only [meD] at h <;> try cases h
  rename_i xs
  split at h
  · rename_i hc
    rw [Bool.and_eq_true, Bool.and_eq_true, decide_eq_true_eq] at hc
    cases h
    exact ⟨_, rfl, hc.1.1, hc.1.2, hc.2, rfl⟩
  · cases h
theorem sf_sset {p p2 q : Pos} {m n : Str} (ha : SE S W G x a) (hm : m = "sorted" := by rfl) (hn : n = "set" := by rfl) (hg : S.sc.names.lookup m = some .globalImplicit := by rfl) (hg2 : S.sc.names.lookup n = some .globalImplicit := by rfl)
    (na : ∀ env, starEach [x] env = (false, eval x env) :: starEach [] env := by intro _; rfl) : SF S W G (.Call (.Name m p) [.Call (.Name n p2) [x] [] q] [] pos) (.me .sset a []) := fun X h => ⟨fun pins s σ H Q I q => by
  subst hm hn
  obtain ⟨F, r, t, d, t', S0, ee, k⟩ := q
  rw [ev] at ee
  have ee' : ((ev G a r).o t).bind (fun p => (evs G [] r p.2).bind fun q => (meD .sset p.1 q.1).map fun d => (d, q.2)) = some (d, t') := ee
  obtain ⟨p1, e1, e2⟩ := Option.bind_eq_some_iff.mp ee'
  rw [evs] at e2
  obtain ⟨v, e5, e6⟩ := Option.map_eq_some_iff.mp e2
  cases e6
  obtain ⟨xs, e7, c1, c2, c3, rfl⟩ := meD_sset e5
  refine Call_ (ld_blt I (gl_of h hg) (h.bt _ (by simp [btN])) boot_sorted ?_)
  refine PyProof.Rows.callWith_builtin1 (PyProof.Rows.args_cons ?_ rfl) rfl rfl
  refine Call_ (ld_blt I (gl_of h hg2) (h.bt _ (by simp [btN])) PyProof.Rows.boot_set ?_)
  refine PyProof.Rows.callWith_type1 (PyProof.Rows.args_cons (thn ((ha X h).o.run pins s σ H (fun v H' => ∃ F', Ext W F H F' H' ∧ Tp W p1.2 H' ∧ Opd W F' H' (.lst xs) v) I ⟨F, r, t, p1.1, p1.2, S0, e1, fun F' v H' E1 T1 O1 => ⟨F', E1, T1, e7 ▸ O1⟩⟩) fun u s1 ⟨xv, H1, I1, rx, F1, E1, T1, O1⟩ => PyProof.Rows.args_nil ?_) (na _)) (na _) rfl
  have S1 := S0.ext E1 T1
  refine wpAny_mono (call_sset h.hK h.calm h.un I1 S1.f2 O1.1 rx c1 c2 c3 fun v H' n => own_laid S0.pl E1 T1 n k) (fun b s2 hb => PyProof.Rows.args_nil hb) fun _ _ e => e⟩
theorem se_sset {p p2 q : Pos} {m n : Str} (ha : SE S W G x a) (hm : m = "sorted" := by rfl) (hn : n = "set" := by rfl) (hg : S.sc.names.lookup m = some .globalImplicit := by rfl) (hg2 : S.sc.names.lookup n = some .globalImplicit := by rfl)
    (na : ∀ env, starEach [x] env = (false, eval x env) :: starEach [] env := by intro _; rfl) : SE S W G (.Call (.Name m p) [.Call (.Name n p2) [x] [] q] [] pos) (.me .sset a []) := SF.se (fun _ _ => rfl) mk_me (sf_sset ha hm hn hg hg2 na)
end
end Ip

/-! IpN: defs, tables of defs, the tape. -/
namespace Ip
open PySem PySem.Spec PyProof.Rows L2

/-! ### another world of the same written part and tape -/
mutual
theorem Rep.chg {W W' : Wd} {F : Addr → Prop} {H : Hp} (hP : W.P = W'.P ∧ W.w = W'.w) (hK : W.K = W'.K) (hb : W.ba = W'.ba) : ∀ (d : D) (v : V), Rep W F H d v → Rep W' F H d v
  | .tup ds, v, h => by
    simp only [Rep] at h ⊢
    obtain ⟨a, vs, e, z, h1, h2⟩ := h
    exact ⟨a, vs, e, z, hK ▸ h1, RepL.chg hP hK hb ds vs h2⟩
  | .lst ds, v, h => by
    simp only [Rep] at h ⊢
    obtain ⟨a, vs, e, z, h1, h2⟩ := h
    exact ⟨a, vs, e, z, h1, RepL.chg hP hK hb ds vs h2⟩
  | .box, v, h => by
    simp only [Rep] at h ⊢
    rw [← hb]; exact h
  | .dic kvs, v, h => by
    simp only [Rep] at h ⊢
    obtain ⟨a, o, us, e, f, h1, h2, h3⟩ := h
    exact ⟨a, o, us, e, f, h1, hP.1 ▸ hP.2 ▸ h2, RepE.chg hP hK hb kvs us h3⟩
  | .non, _, h | .bl _, _, h | .int _, _, h | .str _, _, h => h
  | .set _, _, h | .fn _, _, h => by simp only [Rep] at h
theorem RepE.chg {W W' : Wd} {F : Addr → Prop} {H : Hp} (hP : W.P = W'.P ∧ W.w = W'.w) (hK : W.K = W'.K) (hb : W.ba = W'.ba) : ∀ (kvs : List (D × D)) (us : List (V × V)), RepE W F H kvs us → RepE W' F H kvs us
  | [], _, h => h
  | p :: kvs, us, h => by
    simp only [RepE] at h ⊢
    obtain ⟨v, r, e, h1, h2⟩ := h
    exact ⟨v, r, e, RepP.chg hP hK hb p v h1, RepE.chg hP hK hb kvs r h2⟩
theorem RepP.chg {W W' : Wd} {F : Addr → Prop} {H : Hp} (hP : W.P = W'.P ∧ W.w = W'.w) (hK : W.K = W'.K) (hb : W.ba = W'.ba) : ∀ (p : D × D) (q : V × V), RepP W F H p q → RepP W' F H p q
  | (k, x), q, h => by
    simp only [RepP] at h ⊢
    exact ⟨Rep.chg hP hK hb k q.1 h.1, Rep.chg hP hK hb x q.2 h.2⟩
theorem RepL.chg {W W' : Wd} {F : Addr → Prop} {H : Hp} (hP : W.P = W'.P ∧ W.w = W'.w) (hK : W.K = W'.K) (hb : W.ba = W'.ba) : ∀ (ds : List D) (vs : List V), RepL W F H ds vs → RepL W' F H ds vs
  | [], _, h => h
  | d :: ds, vs, h => by
    simp only [RepL] at h ⊢
    obtain ⟨v, r, e, h1, h2⟩ := h
    exact ⟨v, r, e, Rep.chg hP hK hb d v h1, RepL.chg hP hK hb ds r h2⟩
end
/-- the world as it stands at a call -/
def Wd.at (W : Wd) (H : Hp) (F : Addr → Prop) : Wd := { W with H0 := H, F0 := F }
section
variable {W : Wd} {F F' : Addr → Prop} {H H' : Hp} {s s' : T}
theorem Rep.to {H0 : Hp} {F0 : Addr → Prop} {d : D} {v : V} (h : Rep W F H d v) : Rep (W.at H0 F0) F H d v := Rep.chg (W := W) (W' := W.at H0 F0) ⟨rfl, rfl⟩ rfl rfl d v h
theorem Rep.back {H0 : Hp} {F0 : Addr → Prop} {d : D} {v : V} (h : Rep (W.at H0 F0) F H d v) : Rep W F H d v := Rep.chg (W := W.at H0 F0) (W' := W) ⟨rfl, rfl⟩ rfl rfl d v h
theorem RepL.to {H0 : Hp} {F0 : Addr → Prop} {ds : List D} {vs : List V} (h : RepL W F H ds vs) : RepL (W.at H0 F0) F H ds vs := RepL.chg (W := W) (W' := W.at H0 F0) ⟨rfl, rfl⟩ rfl rfl ds vs h
theorem Ext.back {H0 : Hp} {F0 : Addr → Prop} (h : Ext (W.at H0 F0) F H F' H') : Ext W F H F' H' := ⟨h.keep, h.mono, h.new, h.live, h.alive⟩
/-- the slots of a def at its call -/
theorem Sim.start {ds : List D} {vs : List V} {N : List Str} (P : Pl W F H s) (R : RepL W F H ds vs) : Sim (W.at H F) F (ds.map (fun x => some (false, x)) ++ List.replicate (N.length - ds.length) none) s (start N vs) H where
  len := by simp [L2.start, R.length]
  val := fun i d h => by
    have hi : i < ds.length := by
      by_cases hi : i < ds.length
      · exact hi
      · rw [List.getElem?_append_right (by rw [List.length_map]; omega), List.getElem?_replicate] at h
        split at h <;> cases h
    rw [List.getElem?_append_left (by rw [List.length_map]; exact hi), List.getElem?_map] at h
    cases e : ds[i]? with
    | none => rw [e] at h; cases h
    | some d' =>
      rw [e] at h
      cases h
      obtain ⟨v, e1, r⟩ := R.get e
      refine ⟨v, ?_, r.to⟩
      unfold L2.start
      rw [List.getElem?_append_left (by rw [List.length_map, R.length]; exact hi), List.getElem?_map, e1]
      rfl
  own := fun i d h => by
    exfalso
    by_cases hi : i < ds.length
    · rw [List.getElem?_append_left (by rw [List.length_map]; exact hi), List.getElem?_map] at h
      cases e : ds[i]? <;> rw [e] at h <;> cases h
    · rw [List.getElem?_append_right (by rw [List.length_map]; omega), List.getElem?_replicate] at h
      split at h <;> cases h
  dis := fun i j d d' a _ h _ _ _ => by
    exfalso
    by_cases hi : i < ds.length
    · rw [List.getElem?_append_left (by rw [List.length_map]; exact hi), List.getElem?_map] at h
      cases e : ds[i]? <;> rw [e] at h <;> cases h
    · rw [List.getElem?_append_right (by rw [List.length_map]; omega), List.getElem?_replicate] at h
      split at h <;> cases h
  old := fun _ _ h _ _ => h
  f0 := fun _ h => h
  f1 := fun _ h => .inl h
  f2 := P.f2
  f3 := P.f3
  tape := P.tape
end

/-! ### tables -/
section
variable {P : Program} {w : World} {K : PySem.W.Frag} {mg : Str → Option Value} {base : Heap} {B : Tb}
def AllOk (P : Program) (w : World) (K : PySem.W.Frag) (mg : Str → Option Value) (base : Heap) (B : Tb) (k : Nat) : Prop := ∀ x i n, B.ft x = some (i, n) → ∃ (f : Addr) (fd : FuncData) (ps : List Str),
  (∀ ba ca, FnOk P w K mg base CX0 (k + 2) f fd ps (spG P w K ba ca (B.at k) i n)) ∧ mg x = some (.ref f) ∧ PySem.W.keepIn K (.ref f) = true ∧ L2.Binds K fd ps []
/-- what is known of one def of the table -/
def Inf (P : Program) (w : World) (K : PySem.W.Frag) (mg : Str → Option Value) (base : Heap) (B : Tb) (x : Str) (i n : Nat) : Prop := ∃ (f : Addr) (fd : FuncData) (ps : List Str),
  mg x = some (.ref f) ∧ PySem.W.keepIn K (.ref f) = true ∧ L2.Binds K fd ps [] ∧ ∀ k, AllOk P w K mg base B k → ∀ ba ca, FnOk P w K mg base CX0 (k + 3) f fd ps (spG P w K ba ca (B.at (k + 1)) i n)
theorem all_ok (h : ∀ x i n, B.ft x = some (i, n) → Inf P w K mg base B x i n) : ∀ k, AllOk P w K mg base B k
  | 0 => fun x i n e => by
    obtain ⟨f, fd, ps, h1, h2, h3, _⟩ := h x i n e
    have no : ∀ ba ca vs H Q E, ¬ spG P w K ba ca (B.at 0) i n vs H Q E := by
      rintro ba ca vs H Q E ⟨_, _, ds, s, d, s', _, _, _, _, _, _, z, _⟩
      have z' : run B.pr B.ds B.wn 0 i ds s = some (d, s') := z
      rw [run] at z'
      cases z'
    exact ⟨f, fd, ps, fun ba ca => ⟨fun vs H Q E z => (no _ _ _ _ _ _ z).elim, fun _ _ _ _ _ _ _ _ _ _ _ _ _ z => (no _ _ _ _ _ _ z).elim⟩, h1, h2, h3⟩
  | k + 1 => fun x i n e => by
    obtain ⟨f, fd, ps, h1, h2, h3, h4⟩ := h x i n e
    exact ⟨f, fd, ps, h4 k (all_ok h k), h1, h2, h3⟩
theorem out_some {o : Option R} {p : D × T} (h : out o = some p) : o = some (.rt p.1 p.2) ∨ ∃ r, o = some (.nx r p.2) ∧ p.1 = .non := by
  unfold out at h
  split at h
  · cases h; exact .inl rfl
  · cases h; exact .inr ⟨_, rfl, rfl⟩
  · cases h
theorem std_of {x qual : Str} {sc : Scope} {N : List Str} {f : Addr} {cdv : Value} {A : Around} {outer : List PySem.Env} {s : Shared} {H : Hp} {E : XK} {k : Nat} {W : Wd} (hN : N.Nodup) (hr : Room (k + 2) (A.deeper (envOfC qual sc s.heap.objs.size f cdv))) (hP : W.P = P ∧ W.w = w) (hK : W.K = K)
    (hbt : ∀ x ∈ btN, mg x = none) (all : AllOk P w K mg base B k) : Std ⟨N, sc, fun _ => true, B.ft⟩ W (B.at k) (cxOf CX0 P w K mg base N qual sc f cdv A outer s H E).nox where
  hN := rfl
  hs := rfl
  hf := fun _ _ => rfl
  hK := hK.symm
  hP := hP.1.symm
  hw := hP.2.symm
  calm := rfl
  nd := hN
  un := hr.units
  po := PassesOwn.never
  bt := hbt
  cl := fun x i n e => by
    obtain ⟨f', fd, ps, h1, h2, h3, h4⟩ := all x i n e
    refine ⟨k + 2, f', fd, ps, ?_, hr, h2, h3, h4⟩
    rw [hK, hP.1, hP.2]
    exact h1 W.ba W.ca
/-- a def whose body the table holds -/
theorem def_ok {x qual : Str} {st : Stmt} {f : Addr} {fd : FuncData} {N ps : List Str} {us : List Ip.S} {i : Nat} {k : Nat} (Fn : L2.Fun K x qual st f fd) (Sf : FnScope N ps (defScope st))
    (body : ∀ W G, SSs ⟨N, defScope st, fun _ => true, B.ft⟩ W G B.wn (defBody st) us) (hds : B.ds i = some ⟨ps.length, N.length - ps.length, us⟩) (hpr : B.pr i = none) (hbt : ∀ x ∈ btN, mg x = none)
    (all : AllOk P w K mg base B k) (ba ca : Addr) : FnOk P w K mg base CX0 (k + 3) f fd ps (spG P w K ba ca (B.at (k + 1)) i ps.length) := by
  refine Fn.ok Sf (fun vs H Q E h => ?_) (fun cdv A outer s H vs Q E hr h => ?_)
  · obtain ⟨_, _, _, _, _, _, _, _, _, _, _, e, _⟩ := h
    exact e
  · obtain ⟨W, F, ds, t, d, t', ⟨rfl, rfl, rfl⟩, rfl, rfl, P0, R0, hl, e, kk⟩ := h
    have e' : run B.pr B.ds B.wn (k + 1) i ds t = some (d, t') := e
    rw [run] at e'
    rw [hpr, hds] at e'
    have e2 : (if ds.length = ps.length then out (exs (B.at k) B.wn us (ds.map (fun x => some (false, x)) ++ List.replicate (N.length - ps.length) none) t) else none) = some (d, t') := e'
    have hdl : ds.length = ps.length := by rw [← R0.length]; exact hl
    rw [if_pos hdl] at e2
    refine ⟨_, body (W.at H F) (B.at k) _ (std_of (x := x) Sf.nd hr ⟨rfl, rfl⟩ rfl hbt all), ?_⟩
    have S0 : Sim (W.at H F) F (ds.map (fun x => some (false, x)) ++ List.replicate (N.length - ps.length) none) t (start N vs) H := by
      rw [← hdl]
      exact Sim.start P0 R0
    rcases out_some e2 with e3 | ⟨r, e3, e4⟩
    · exact ⟨F, _, t, _, S0, e3, fun F' v H' E1 T1 R1 => kk F' v H' (Ext.back E1) T1 R1.back⟩
    · dsimp only at e4
      subst e4
      exact ⟨F, _, t, _, S0, e3, fun F' σ' H' _ S1 => kk F' .non H' (Ext.back S1.done) S1.tape rfl⟩
end
end Ip

/-! IpO: the tape's defs: _law_box, _law_load, _law_draw. -/
namespace Ip
open PySem PySem.Spec PyProof.Rows L2

/-! ### numbers read off terms -/
def EvI (t : TE) (σ : L2.St) (H : Hp) (i : Int) : Prop := ∀ Q : VK, Q (.int i) H → t σ H Q
def rInt : List V → Hp → VK → Prop := fun xs H Q => (∃ i, xs = [.int i] ∧ Q (.int i) H) ∨ ∃ k, xs = [.bl k] ∧ Q (.int (if k then 1 else 0)) H
def iB (K : PySem.W.Frag) (j : Int) : TE := tOp (rIx K) (tVar 0) (tC (.int j))
def iI (t : TE) : TE := tCB rInt (tCons t tNil)
def iAdd (a b : TE) : TE := tOp (rI0 fun i j => .int (i + j)) a b
def iSub (a b : TE) : TE := tOp (rI0 fun i j => .int (i - j)) a b
def iMul (a b : TE) : TE := tOp (rI CMul fun i j => .int (i * j)) a b
def iMod (a b : TE) : TE := tOp (rI (fun _ j => 0 < j) fun i j => .int (i % j)) a b
def iDiv (a b : TE) : TE := tOp (rI CDiv fun i j => .int (i / j)) a b
section
variable {σ : L2.St} {H : Hp} {a b : TE} {i j : Int} {K : PySem.W.Frag}
theorem eI_c : EvI (tC (.int i)) σ H i := fun _ q => q
theorem eI_v {n : Nat} (h : σ[n]? = some (some (.int i))) : EvI (tVar n) σ H i := fun _ q => ⟨_, h, q⟩
theorem eI_add (ha : EvI a σ H i) (hb : EvI b σ H j) : EvI (iAdd a b) σ H (i + j) := fun Q q => ha _ (hb _ ⟨i, j, rfl, rfl, q⟩)
theorem eI_sub (ha : EvI a σ H i) (hb : EvI b σ H j) : EvI (iSub a b) σ H (i - j) := fun Q q => ha _ (hb _ ⟨i, j, rfl, rfl, q⟩)
theorem eI_mul (ha : EvI a σ H i) (hb : EvI b σ H j) (h : CMul i j) : EvI (iMul a b) σ H (i * j) := fun Q q => ha _ (hb _ ⟨i, j, rfl, rfl, h, q⟩)
theorem eI_mod (ha : EvI a σ H i) (hb : EvI b σ H j) (h : 0 < j) : EvI (iMod a b) σ H (i % j) := fun Q q => ha _ (hb _ ⟨i, j, rfl, rfl, h, q⟩)
theorem eI_div (ha : EvI a σ H i) (hb : EvI b σ H j) (h : CDiv i j) : EvI (iDiv a b) σ H (i / j) := fun Q q => ha _ (hb _ ⟨i, j, rfl, rfl, h, q⟩)
theorem eI_int (ha : EvI a σ H i) : EvI (iI a) σ H i := fun Q q => ha _ (.inl ⟨i, rfl, q⟩)
theorem eI_neg (ha : EvI a σ H i) : EvI (tUn (rU fun i => .int (-i)) a) σ H (-i) := fun Q q => ha _ ⟨i, rfl, q⟩
theorem eI_box {p : Addr} {vs : List V} {n : Nat} (hs : σ[0]? = some (some (.ref p))) (hp : H p = some (.lst vs)) (hv : vs[n]? = some (.int i)) : EvI (iB K (n : Int)) σ H i := fun Q q => ⟨_, hs, .inl ⟨p, vs, n, _, rfl, rfl, SqL.of hp, atI_nat hv, q⟩⟩
theorem cm_r {i j : Int} (h : -(2 ^ 64) < j ∧ j < 2 ^ 64) : CMul i j := .inr h
theorem cm_l {i j : Int} (h : -(2 ^ 64) < i ∧ i < 2 ^ 64) : CMul i j := .inl h
end

/-! ### the bodies' terms -/
def gBox (j : Int) : TG := gSub (tVar 0) (tC (.int j)) rSetL
def rGt : R2 := rI0 fun i j => .bl (decide (j < i))
def rGe : R2 := rI0 fun i j => .bl (decide (j ≤ i))
def rLt' : R2 := rI0 fun i j => .bl (decide (i < j))
def rLenQ (K : PySem.W.Frag) : List V → Hp → VK → Prop := fun xs H Q => ∃ p ys, xs = [.ref p] ∧ (SqL K H p ys ∨ SqT K H p ys) ∧ Q (.int ys.length) H
def tTail (K : PySem.W.Frag) : TS :=
  tSeq (tAsg (iMod (iI (iAdd (iMul (iB K 2) (tC (.int 48271))) (tC (.int 17)))) (tC (.int 2147483629))) (gName 4))
  (tSeq (tAsg (iMod (iI (iAdd (iMul (tVar 4) (tC (.int 69621))) (tC (.int 5)))) (tC (.int 2147483587))) (gName 5))
  (tSeq (tAsg (iMod (iI (iAdd (iMul (tVar 5) (tC (.int 40692))) (tC (.int 3)))) (tC (.int 2147483563))) (gBox 2))
  (tRet (iAdd (iAdd (iMul (tVar 4) (tC (.int 4611686014132420609))) (iMul (tVar 5) (tC (.int 2147483647)))) (iB K 2)))))
def tLoad (K : PySem.W.Frag) : TS :=
  tSeq (tAsg (iB K 0) (gName 1))
  (tSeq (tIfS (tTest (tOp rGt (tCB (rLenQ K) (tCons (tVar 1) tNil)) (tC (.int 0))))
    (tSeq (tAsg (iI (tBM K "list" rPopAt (tVar 1) (tCons (tC (.int 0)) tNil))) (gName 2))
    (tSeq (tAsg (tIf (tTest (tOp rGe (tVar 2) (tC (.int 0)))) (iMul (tC (.int 2)) (tVar 2)) (iSub (iMul (tUn (rU fun i => .int (-i)) (tC (.int 2))) (tVar 2)) (tC (.int 1)))) (gName 3))
    (tSeq (tIfS (tTest (tOp rGe (tVar 3) (tC (.int 1000000000000000000)))) (tRet (tVar 3)) tNext)
    (tAsg (iMod (iI (iAdd (iAdd (iMul (iB K 2) (tC (.int 69621))) (iMul (tVar 3) (tC (.int 48271)))) (tC (.int 11)))) (tC (.int 2147483647))) (gBox 2))))) tNext)
  (tTail K))
/-- the tape's part of a heap -/
structure Bx (W : Wd) (H0 : Hp) (cells : List Int) (b1 b2 : Int) (H : Hp) : Prop where
  b : H W.ba = some (.lst [.ref W.ca, .int b1, .int b2])
  c : H W.ca = some (.lst (cells.map V.int))
  ne : W.ba ≠ W.ca
  sz : cells.length ≤ 63
  rest : ∀ a, a ≠ W.ba → a ≠ W.ca → H a = H0 a
theorem Bx.set2 {W : Wd} {H0 H : Hp} {cells : List Int} {b1 b2 : Int} (B : Bx W H0 cells b1 b2 H) (y : Int) : Bx W H0 cells b1 y (upd H W.ba (.lst [.ref W.ca, .int b1, .int y])) :=
  ⟨upd_same, by rw [upd_ne B.ne.symm]; exact B.c, B.ne, B.sz, fun a h1 h2 => by rw [upd_ne h1]; exact B.rest a h1 h2⟩
theorem Bx.set1 {W : Wd} {H0 H : Hp} {cells : List Int} {b1 b2 : Int} (B : Bx W H0 cells b1 b2 H) (y : Int) : Bx W H0 cells y b2 (upd H W.ba (.lst [.ref W.ca, .int y, .int b2])) :=
  ⟨upd_same, by rw [upd_ne B.ne.symm]; exact B.c, B.ne, B.sz, fun a h1 h2 => by rw [upd_ne h1]; exact B.rest a h1 h2⟩
theorem Bx.pop {W : Wd} {H0 H : Hp} {c : Int} {r : List Int} {b1 b2 : Int} (B : Bx W H0 (c :: r) b1 b2 H) : Bx W H0 r b1 b2 (upd H W.ca (.lst (r.map V.int))) :=
  ⟨by rw [upd_ne B.ne]; exact B.b, upd_same, B.ne, by have := B.sz; rw [List.length_cons] at this; omega, fun a h1 h2 => by rw [upd_ne h2]; exact B.rest a h1 h2⟩
theorem set_run {W : Wd} {H0 H : Hp} {cells : List Int} {b1 b2 y : Int} {σ : L2.St} {Q : L2.St → Hp → Prop} (B : Bx W H0 cells b1 b2 H) (hs : σ[0]? = some (some (.ref W.ba))) (q : ∀ H', Bx W H0 cells b1 y H' → Q σ H') : gBox 2 (.int y) σ H Q :=
  ⟨_, hs, W.ba, _, 2, 2, rfl, rfl, B.b, rfl, q _ (B.set2 y)⟩
theorem set_run1 {W : Wd} {H0 H : Hp} {cells : List Int} {b1 b2 y : Int} {σ : L2.St} {Q : L2.St → Hp → Prop} (B : Bx W H0 cells b1 b2 H) (hs : σ[0]? = some (some (.ref W.ba))) (q : ∀ H', Bx W H0 cells y b2 H' → Q σ H') : gBox 1 (.int y) σ H Q :=
  ⟨_, hs, W.ba, _, 1, 1, rfl, rfl, B.b, rfl, q _ (B.set1 y)⟩
theorem tail_run {W : Wd} {K : PySem.W.Frag} {H0 H : Hp} {cells : List Int} {b1 b2 : Int} {x1 x2 x3 x4 x5 : Option V} {D : Ends} (B : Bx W H0 cells b1 b2 H) (q : ∀ H', Bx W H0 (loadE cells b2).2.1 b1 (loadE cells b2).2.2 H' → D.rt (.int (loadE cells b2).1) H') :
    tTail K D [some (.ref W.ba), x1, x2, x3, x4, x5] H := by
  refine eI_mod (eI_int (eI_add (eI_mul (eI_box (n := 2) rfl B.b rfl) eI_c (cm_r (by decide))) eI_c)) eI_c (by decide) _ ?_
  refine eI_mod (eI_int (eI_add (eI_mul (eI_v rfl) eI_c (cm_r (by decide))) eI_c)) eI_c (by decide) _ ?_
  refine eI_mod (eI_int (eI_add (eI_mul (eI_v rfl) eI_c (cm_r (by decide))) eI_c)) eI_c (by decide) _ ?_
  refine set_run B rfl fun H' B' => ?_
  exact eI_add (eI_add (eI_mul (eI_v rfl) eI_c (cm_r (by decide))) (eI_mul (eI_v rfl) eI_c (cm_r (by decide)))) (eI_box (n := 2) rfl B'.b rfl) _ (q H' B')
theorem load_run {W : Wd} {K : PySem.W.Frag} {H0 H : Hp} {cells : List Int} {b1 b2 : Int} {D : Ends} (B : Bx W H0 cells b1 b2 H) (q : ∀ H', Bx W H0 (loadD cells b2).2.1 b1 (loadD cells b2).2.2 H' → D.rt (.int (loadD cells b2).1) H') :
    tLoad K D [some (.ref W.ba), none, none, none, none, none] H := by
  refine ⟨_, rfl, .inl ⟨W.ba, _, 0, .ref W.ca, rfl, rfl, SqL.of B.b, rfl, ?_⟩⟩
  refine ⟨_, rfl, W.ca, _, rfl, .inl (SqL.of B.c), _, _, rfl, rfl, _, rfl, ?_⟩
  rw [List.length_map]
  cases cells with
  | nil =>
    exact iteF (tail_run B q)
  | cons c r =>
    rw [decide_eq_true (by rw [List.length_cons]; omega)]
    refine iteT ?_
    refine ⟨_, rfl, .inl ⟨rfl, _, SqL.of B.c⟩, W.ca, _, 0, 0, .int c, rfl, rfl, B.c, by decide, by decide, ?_, rfl, ?_⟩
    · rw [List.length_map, List.length_cons]
      unfold seqIndex?
      simp
    have B1 := B.pop
    refine .inl ⟨c, rfl, ?_⟩
    have hq : ∀ (x : Int), x = sizeC c → ∀ H1, Bx W H0 r b1 b2 H1 → (tSeq (tIfS (tTest (tOp rGe (tVar 3) (tC (.int 1000000000000000000)))) (tRet (tVar 3)) tNext)
        (tAsg (iMod (iI (iAdd (iAdd (iMul (iB K 2) (tC (.int 69621))) (iMul (tVar 3) (tC (.int 48271)))) (tC (.int 11)))) (tC (.int 2147483647))) (gBox 2))) { D with nx := tTail K D } [some (.ref W.ba), some (.ref W.ca), some (.int c), some (.int x), none, none] H1 := by
      rintro x rfl H1 B1
      refine ⟨_, rfl, _, _, rfl, rfl, _, rfl, ?_⟩
      by_cases hc : (1000000000000000000 : Int) ≤ sizeC c
      · rw [decide_eq_true hc]
        refine iteT ⟨_, rfl, ?_⟩
        have e : loadD (c :: r) b2 = (sizeC c, r, b2) := by rw [loadD, if_pos hc]
        rw [e] at q
        exact q _ B1
      · rw [decide_eq_false hc]
        refine iteF ?_
        have e : loadD (c :: r) b2 = loadE r ((b2 * 69621 + sizeC c * 48271 + 11) % 2147483647) := by rw [loadD, if_neg hc]
        rw [e] at q
        refine eI_mod (eI_int (eI_add (eI_add (eI_mul (eI_box (n := 2) rfl B1.b rfl) eI_c (cm_r (by decide))) (eI_mul (eI_v rfl) eI_c (cm_r (by decide)))) eI_c)) eI_c (by decide) _ ?_
        exact set_run B1 rfl fun H' B' => tail_run B' q
    refine ⟨_, rfl, _, _, rfl, rfl, _, rfl, ?_⟩
    by_cases h0 : (0 : Int) ≤ c
    · rw [decide_eq_true h0]
      refine iteT (eI_mul eI_c (eI_v rfl) (cm_l (by decide)) _ ?_)
      exact hq (2 * c) (by unfold sizeC; rw [if_pos h0]) _ B1
    · rw [decide_eq_false h0]
      refine iteF (eI_sub (eI_mul (eI_neg eI_c) (eI_v rfl) (cm_l (by decide))) eI_c _ ?_)
      exact hq (-2 * c - 1) (by unfold sizeC; rw [if_neg h0]) _ B1
def spLoad (ba ca : Addr) : Sp := fun vs H Q _ => ∃ (W : Wd) (cells : List Int) (b1 b2 : Int), W.ba = ba ∧ W.ca = ca ∧ vs = [.ref ba] ∧ Bx W H cells b1 b2 H ∧ ∀ H', Bx W H (loadD cells b2).2.1 b1 (loadD cells b2).2.2 H' → Q (.int (loadD cells b2).1) H'
/-- the call's reading is left open -/
def tDraw (K : PySem.W.Frag) (call : TE) : TS :=
  tSeq (tIfS (tTest (tOp rLt' (iB K 1) (tVar 1))) (tAsg call (gBox 1)) tNext)
  (tSeq (tAsg (iMod (iI (iB K 1)) (tVar 1)) (gName 2))
  (tSeq (tAsg (iDiv (iB K 1) (tVar 1)) (gBox 1))
  (tRet (tVar 2))))
theorem draw_run {W : Wd} {K : PySem.W.Frag} {H : Hp} {cells : List Int} {b1 b2 m : Int} {D : Ends} {d : Int} {s' : T} (B : Bx W H cells b1 b2 H) (e : drD (cells, [b1, b2]) m = some (d, s')) (q : ∀ H' c1 c2, s' = (s'.1, [c1, c2]) → Bx W H s'.1 c1 c2 H' → D.rt (.int d) H') :
    tDraw K (tCall (spLoad W.ba W.ca) [] E0 (tCons (tVar 0) tNil)) D [some (.ref W.ba), some (.int m), none] H := by
  have e' : (if 0 < m ∧ m < 1073741824 then
      (if b1 < m then (let l := loadD cells b2; some (l.1 % m, (l.2.1, [l.1 / m, l.2.2]))) else some (b1 % m, (cells, [b1 / m, b2]))) else none) = some (d, s') := e
  split at e'
  · rename_i hm
    have fin : ∀ c1 c2 cs H1, Bx W H cs c1 c2 H1 → d = c1 % m → s' = (cs, [c1 / m, c2]) → (tSeq (tAsg (iMod (iI (iB K 1)) (tVar 1)) (gName 2))
        (tSeq (tAsg (iDiv (iB K 1) (tVar 1)) (gBox 1)) (tRet (tVar 2)))) D [some (.ref W.ba), some (.int m), none] H1 := by
      intro c1 c2 cs H1 B1 e1 e2
      subst e2
      subst e1
      refine eI_mod (eI_int (eI_box (n := 1) rfl B1.b rfl)) (eI_v rfl) hm.1 _ ?_
      refine eI_div (eI_box (n := 1) rfl B1.b rfl) (eI_v rfl) hm _ ?_
      exact set_run1 B1 rfl fun H' B' => ⟨_, rfl, q H' _ _ rfl B'⟩
    refine eI_box (n := 1) rfl B.b rfl _ ⟨_, rfl, _, _, rfl, rfl, _, rfl, ?_⟩
    by_cases hb : b1 < m
    · rw [if_pos hb] at e'
      rw [decide_eq_true hb]
      refine iteT ⟨_, rfl, W, cells, b1, b2, rfl, rfl, rfl, B, fun H' B' => ?_⟩
      cases e'
      exact set_run1 B' rfl fun H2 B2 => fin _ _ _ _ B2 rfl rfl
    · rw [if_neg hb] at e'
      rw [decide_eq_false hb]
      cases e'
      exact iteF (fin _ _ _ _ B rfl rfl)
  · cases e'
theorem Bx.of {W : Wd} {H : Hp} {s : T} {b1 b2 : Int} (t : Tp W s H) (e : s.2 = [b1, b2]) : Bx W H s.1 b1 b2 H := by
  obtain ⟨t1, t2, t3, t4, _⟩ := t
  rw [e] at t1
  exact ⟨t1, t2, t3, t4, fun _ _ _ => rfl⟩
theorem Bx.tp {W : Wd} {H H0 : Hp} {cells : List Int} {b1 b2 : Int} (B : Bx W H0 cells b1 b2 H) : Tp W (cells, [b1, b2]) H := ⟨B.b, B.c, B.ne, B.sz, by show (2 : Nat) ≤ 3; decide⟩
theorem Bx.ext {W : Wd} {F : Addr → Prop} {H H' : Hp} {cells : List Int} {b1 b2 : Int} {s : T} (P : Pl W F H s) (B : Bx W H cells b1 b2 H') : Ext W F H F H' where
  keep := fun a o e h1 h2 => (B.rest a h1 h2).trans e
  mono := fun _ h => h
  new := fun _ h => .inl h
  live := fun a h => by rw [B.rest a (fun e => P.f3.1 (e ▸ h)) (fun e => P.f3.2 (e ▸ h))]; exact P.f2 a h
  alive := fun a h => by
    by_cases e1 : a = W.ba
    · rw [e1, B.b]; simp
    · by_cases e2 : a = W.ca
      · rw [e2, B.c]; simp
      · rw [B.rest a e1 e2]; exact h
section
variable {P : Program} {w : World} {K : PySem.W.Frag} {mg : Str → Option Value} {base : Heap} {B : Tb}
theorem draw_ok {i : Nat} {f : Addr} {fd : FuncData} (hpr : B.pr i = some pDraw) (ba ca : Addr) (h : FnOk P w K mg base CX0 3 f fd ["box", "many"] fun vs H Q E => ∃ (W : Wd) (s : T) (b1 b2 m : Int) (d : Int) (s' : T), W.ba = ba ∧ W.ca = ca ∧ vs = [.ref ba, .int m] ∧ s.2 = [b1, b2] ∧ Tp W s H ∧ drD (s.1, [b1, b2]) m = some (d, s') ∧ (∀ H' c1 c2, s' = (s'.1, [c1, c2]) → Bx W H s'.1 c1 c2 H' → Q (.int d) H'))
    (k : Nat) : FnOk P w K mg base CX0 (k + 3) f fd ["box", "many"] (spG P w K ba ca (B.at (k + 1)) i 2) := by
  refine (h.mono (by omega)).imp fun vs H Q E z => ?_
  obtain ⟨W, F, ds, s, d, s', ⟨rfl, rfl, rfl⟩, rfl, rfl, P0, R0, hl, e, kk⟩ := z
  have e' : run B.pr B.ds B.wn (k + 1) i ds s = some (d, s') := e
  rw [run, hpr] at e'
  have e2 : pDraw ds s = some (d, s') := e'
  unfold pDraw at e2
  split at e2
  · rename_i m
    obtain ⟨p, e3, e4⟩ := Option.map_eq_some_iff.mp e2
    cases e4
    obtain ⟨v1, r1, rfl, h1, v2, r2, rfl, h2, rfl⟩ := R0
    have h1' : v1 = .ref W.ba := by simpa only [Rep] using h1
    have h2' : v2 = .int m := h2
    subst h1' h2'
    obtain ⟨p1, p2⟩ := p
    have hr : ∃ b1 b2, s.2 = [b1, b2] := by
      unfold drD at e3
      split at e3
      · rename_i b1 b2 hh
        exact ⟨b1, b2, hh⟩
      · cases e3
    obtain ⟨b1, b2, hr⟩ := hr
    have es : (s.1, [b1, b2]) = s := by rw [← hr]
    refine ⟨W, s, b1, b2, m, p1, p2, rfl, rfl, rfl, hr, P0.tape, by rw [es]; exact e3, fun H' c1 c2 ec B' => ?_⟩
    refine kk F (.int p1) H' (B'.ext P0) ?_ rfl
    rw [ec]
    exact B'.tp
  · cases e2
end
end Ip

/-! IpP: the law's own def: the box made, then the rest by the table. -/
namespace Ip
open PySem PySem.Spec PyProof.Rows L2
/-! ### _law_box -/
def rListQ (K : PySem.W.Frag) : List V → Hp → VK → Prop := fun xs H Q => ∃ p ys, xs = [.ref p] ∧ (SqL K H p ys ∨ SqT K H p ys) ∧ ∀ l, H l = none → Q (.ref l) (upd H l (.lst ys))
def tBox (K : PySem.W.Frag) : TS := tRet (tLst (tCons (tCB (rListQ K) (tCons (tSl (rSlL K) (tVar 0) tNoPart (tPart (tC (.int 63)))) tNil)) (tCons (tC (.int 0)) (tCons (iAdd (tC (.int 4711)) (tCB (rLenQ K) (tCons (tVar 0) tNil))) tNil))))
def spBox (K : PySem.W.Frag) : Sp := fun vs H Q _ => ∃ (a : Addr) (ns : List Int), vs = [.ref a] ∧ SqL K H a (ns.map V.int) ∧ ns.length ≤ 63 ∧
  ∀ ba ca H', ba ≠ ca → H' ba = some (.lst [.ref ca, .int 0, .int (4711 + (ns.length : Int))]) → H' ca = some (.lst (ns.map V.int)) → Q (.ref ba) H'
theorem cut63 {α : Type} {xs : List α} {f : α → V} (h : xs.length ≤ 63) : cutV (xs.map f) none (some 63) = xs.map f := by
  have e : HT.sIx (xs.map f).length (xs.map f).length (some 63) = (xs.map f).length := by
    rw [List.length_map]
    show min 63 xs.length = xs.length
    omega
  have e0 : HT.sIx (xs.map f).length 0 none = 0 := rfl
  unfold cutV
  rw [e, e0, List.drop_zero, Nat.sub_zero, List.take_length]
theorem three_ok {u v x : V} : [u, v, x].length ≤ sizeLine := by rw [← szL_eq]; show 3 ≤ szL; decide
theorem box_run {K : PySem.W.Frag} {H : Hp} {vs : List V} {Q : VK} {E : XK} (h : spBox K vs H Q E) : tBox K { nx := fun _ H' => Q .non H', rt := Q } (start ["script"] vs) H := by
  obtain ⟨a, ns, rfl, hs, hn, q⟩ := h
  refine ⟨_, rfl, 63, rfl, a, _, rfl, hs, fun u hu => ⟨u, _, rfl, .inl (SqL.of upd_same), fun l hl => ?_⟩⟩
  rw [cut63 hn] at hl ⊢
  have s1 : ∀ b o, H b = some o → upd (upd H u (.lst (ns.map V.int))) l (.lst (ns.map V.int)) b = some o := fun b o e => by
    rw [upd_ne (ne_of_none (by rw [upd_ne (ne_of_none e hu)]; exact e) hl), upd_ne (ne_of_none e hu)]
    exact e
  have hs' : SqL K (upd (upd H u (.lst (ns.map V.int))) l (.lst (ns.map V.int))) a (ns.map V.int) := Same.seq s1 hs
  refine eI_add eI_c (fun Q q => ⟨_, rfl, a, _, rfl, .inl hs', q⟩) _ ⟨three_ok, fun p hp => ?_⟩
  have npl : p ≠ l := fun e => by rw [e, upd_same] at hp; cases hp
  refine q p l _ npl ?_ ?_
  · rw [upd_same, List.length_map]
  · rw [upd_ne npl.symm, upd_same]

/-! ### the law -/
def spLaw (K : PySem.W.Frag) : Sp := fun vs H Q _ => ∃ (a : Addr) (ns : List Int), vs = [.ref a] ∧ SqL K H a (ns.map V.int) ∧ ns.length ≤ 63 ∧ ∀ H', Q (.bl true) H'
def gL (P : Program) (w : World) (K : PySem.W.Frag) (G : Gl) (wn : Nat) (us : List Ip.S) : TS := fun D σ H => ∃ W : Wd, ((W.P = P ∧ W.w = w) ∧ W.K = K) ∧ gSs W G wn us D σ H
section
variable {P : Program} {w : World} {K : PySem.W.Frag} {mg : Str → Option Value} {base : Heap} {B : Tb}
/-- the slots when the box is made -/
theorem Sim.law {W : Wd} {s : T} {H : Hp} {σ : L2.St} {n i : Nat} (hl : σ.length = n) (hi : σ[i]? = some (some (.ref W.ba))) (t : Tp W s H) : Sim (W.at H fun _ => False) (fun _ => False) (env0 n i) s σ H where
  len := by unfold env0; rw [List.length_set, List.length_replicate]; exact hl.symm
  val := fun j d h => by
    rcases set_some h with ⟨rfl, e, _⟩ | ⟨_, h⟩
    · cases e
      exact ⟨_, hi, by simp only [Rep]; rfl⟩
    · rw [List.getElem?_replicate] at h
      split at h <;> cases h
  own := fun j d h => by
    exfalso
    rcases set_some h with ⟨_, e, _⟩ | ⟨_, h⟩
    · cases e
    · rw [List.getElem?_replicate] at h
      split at h <;> cases h
  dis := fun j _ d _ _ _ h _ _ _ => by
    exfalso
    rcases set_some h with ⟨_, e, _⟩ | ⟨_, h⟩
    · cases e
    · rw [List.getElem?_replicate] at h
      split at h <;> cases h
  old := fun _ _ h _ _ => h
  f0 := fun _ h => h.elim
  f1 := fun _ h => h.elim
  f2 := fun _ h => h.elim
  f3 := ⟨fun h => h, fun h => h⟩
  tape := t
theorem law_ok {st : Stmt} {f fB : Addr} {fd fdB : FuncData} {N : List Str} {us : List Ip.S} {rest : List Stmt} {ib k : Nat} {p1 p2 p3 p4 p5 : Pos} (Fn : L2.Fun K "law" "law" st f fd) (Sf : FnScope N ["script"] (defScope st))
    (hb : defBody st = .Assign [.Name "box" p1] (.Call (.Name "_law_box" p2) [.Name "script" p3] [] p4) p5 :: rest) (hi : N[ib]? = some ("box" : Str)) (hl : Loc (defScope st) "box") (hv : Vis (defScope st) "script") (hg : (defScope st).names.lookup ("_law_box" : Str) = some .globalImplicit)
    (h0 : N[0]? = some ("script" : Str))
    (body : ∀ W G, SSs ⟨N, defScope st, fun _ => true, B.ft⟩ W G B.wn rest us) (hbt : ∀ x ∈ btN, mg x = none) (all : AllOk P w K mg base B k)
    (FB : FnOk P w K mg base CX0 1 fB fdB ["script"] (spBox K)) (mB : mg "_law_box" = some (.ref fB)) (kB : PySem.W.keepIn K (.ref fB) = true) (bB : L2.Binds K fdB ["script"] [])
    (law : ∀ (cells : List Int) (b : Int), cells.length ≤ 63 → ∃ s', out (exs (B.at k) B.wn us (env0 N.length ib) (cells, [0, b])) = some (.bl true, s')) :
    FnOk P w K mg base CX0 (k + 3) f fd ["script"] (spLaw K) := by
  refine Fn.ok Sf (fun vs H Q E h => ?_) (fun cdv A outer s H vs Q E hr h => ?_)
  · obtain ⟨a, ns, rfl, _⟩ := h
    rfl
  · obtain ⟨a, ns, rfl, hS, hlen, q⟩ := h
    rw [hb]
    have i0 : (start N [V.ref a])[0]? = some (some (.ref a)) := rfl
    have hlen0 : (start N [V.ref a]).length = N.length := by
      have : 0 < N.length := by
        cases N with
        | nil => cases h0
        | cons _ _ => simp
      simp [L2.start]
      omega
    refine ⟨_, pss_cons (ps_set (i := ib) Sf.nd hi hl (pe_call FB (hr.mono (by omega)) hg mB kB bB .nil pass0 (pa_cons (pe_var (i := 0) h0 hv) pa_nil rfl) rfl rfl rfl) rfl (.inl rfl))
      (u := gL P w K (B.at k) B.wn us) ⟨fun pins s' σ H' D I ⟨W, ⟨hP, hW⟩, z⟩ => (body W (B.at k) _ (std_of (x := "law") Sf.nd hr hP hW hbt all)).run pins s' σ H' D I z⟩, ?_⟩
    refine ⟨_, i0, a, ns, rfl, hS, hlen, fun ba ca H' ne hba hca => ?_⟩
    obtain ⟨s', e⟩ := law ns (4711 + (ns.length : Int)) hlen
    refine ⟨(⟨P, w, K, ba, ca, H', fun _ => False⟩ : Wd).at H' fun _ => False, ⟨⟨rfl, rfl⟩, rfl⟩, ?_⟩
    have hib : ib < (start N [V.ref a]).length := by
      rw [hlen0]
      exact (List.getElem?_eq_some_iff.mp hi).1
    have S0 := Sim.law (W := ⟨P, w, K, ba, ca, H', fun _ => False⟩) (s := (ns, [0, 4711 + (ns.length : Int)])) (H := H') (σ := (start N [V.ref a]).set ib (some (.ref ba))) (n := N.length) (i := ib) (by rw [List.length_set]; exact hlen0) (set_at hib) ⟨hba, hca, ne, hlen, by show (2 : Nat) ≤ 3; decide⟩
    rcases out_some e with e3 | ⟨r, e3, e4⟩
    · refine ⟨_, _, _, _, S0, e3, fun F' v H2 E1 T1 R1 => ?_⟩
      have R2 : v = .bl true := R1
      subst R2
      exact q H2
    · cases e4
/-! ### what the top has written -/
/-- the def x stands in the written part -/
def Dat (K : PySem.W.Frag) (x : Str) (st : Stmt) : Prop := ∃ (f : Addr) (fd : FuncData), PySem.W.nsIn K mainGlobals x = some (some (.ref f)) ∧ L2.Fun K x x st f fd ∧ PySem.W.keepIn K (.ref f) = true
theorem dat_of {K : PySem.W.Frag} {x : Str} {st : Stmt} {f : Addr} {oc : Value} {od an : Option Addr} {osl : Array (Option Value)} {kV doc pm cdv ct : Value} (a : PySem.W.nsIn K mainGlobals x = some (some (.ref f)))
    (l : K.lookup f = some ⟨oc, od, .func (PySem.W.fnOf x x (defArgs st) (defBody st) (defScope st) .none kV doc pm an cdv ct), osl⟩) (c : PySem.W.codeIn K cdv x = true) (k : PySem.W.keepIn K (.ref f) = true) : Dat K x st := ⟨f, _, a, fun_mk l c k, k⟩
theorem inf_of {x : Str} {st : Stmt} {h : Heap} (X : K.In h) (G : h.Ns mainGlobals mg) (d : Dat K x st) {N ps : List Str} {us : List Ip.S} {i n : Nat} (hn : ps.length = n) (Sf : FnScope N ps (defScope st))
    (body : ∀ W G, SSs ⟨N, defScope st, fun _ => true, B.ft⟩ W G B.wn (defBody st) us) (hds : B.ds i = some ⟨ps.length, N.length - ps.length, us⟩) (hpr : B.pr i = none) (hbt : ∀ x ∈ btN, mg x = none)
    (hb : ∀ (kV doc pm : Value) (an : Option Addr) (cdv ct : Value) (us : List Value), us.length = ps.length → bindArgs (PySem.W.fnOf x x (defArgs st) (defBody st) (defScope st) .none kV doc pm an cdv ct) ⟨us, []⟩ = pure (ps.zip us)) : Inf P w K mg base B x i n := by
  obtain ⟨f, fd, a, F, k⟩ := d
  subst hn
  exact ⟨f, fd, ps, PySem.W.mg_of X G a, k, F.binds hb, fun k all ba ca => def_ok F Sf body hds hpr hbt all ba ca⟩
theorem ft_all {l : List (Str × Nat × Nat)} {p : Str → Nat → Nat → Prop} (h : ∀ q ∈ l, p q.1 q.2.1 q.2.2) : ∀ x i n, l.lookup x = some (i, n) → p x i n := by
  intro x i n e
  induction l with
  | nil => cases e
  | cons q l ih =>
    obtain ⟨y, j, m⟩ := q
    rw [List.lookup_cons] at e
    cases hb : x == y with
    | true =>
      rw [hb] at e
      cases e
      have := h (y, i, n) List.mem_cons_self
      rw [eq_of_beq hb]
      exact this
    | false =>
      rw [hb] at e
      exact ih (fun q hq => h q (List.mem_cons_of_mem _ hq)) e
end
end Ip

/-! PuA: plain lemmas on the evaluator. -/
namespace Ip
/-! ### the tape -/
def TOk (s : T) : Prop := ∃ b1 b2, s.2 = [b1, b2]
theorem drD_ok {s : T} {m : Int} (h : TOk s) (h0 : 0 < m) (h1 : m < 1073741824) : ∃ d s', drD s m = some (d, s') ∧ 0 ≤ d ∧ d < m ∧ TOk s' := by
  obtain ⟨b1, b2, e⟩ := h
  unfold drD
  rw [e]
  dsimp only
  rw [if_pos ⟨h0, h1⟩]
  by_cases hb : b1 < m
  · rw [if_pos hb]
    exact ⟨_, _, rfl, Int.emod_nonneg _ (by omega), Int.emod_lt_of_pos _ h0, _, _, rfl⟩
  · rw [if_neg hb]
    exact ⟨_, _, rfl, Int.emod_nonneg _ (by omega), Int.emod_lt_of_pos _ h0, _, _, rfl⟩

/-! ### operations on numbers -/
theorem cmp_le_int (i j : Int) : cmpD .le (.int i) (.int j) = some (decide (i ≤ j)) := by
  show some (!decide (j < i)) = _
  congr 1
  rw [Bool.eq_iff_iff]
  simp
theorem cmp_ge_int (i j : Int) : cmpD .ge (.int i) (.int j) = some (decide (j ≤ i)) := by
  show some (!decide (i < j)) = _
  congr 1
  rw [Bool.eq_iff_iff]
  simp
theorem cmp_lt_int (i j : Int) : cmpD .lt (.int i) (.int j) = some (decide (i < j)) := id rfl
theorem cmp_gt_int (i j : Int) : cmpD .gt (.int i) (.int j) = some (decide (j < i)) := id rfl
theorem cmp_eq_int (i j : Int) : cmpD .eq (.int i) (.int j) = some (i == j) := id rfl
theorem cmp_ne_int (i j : Int) : cmpD .ne (.int i) (.int j) = some (!(i == j)) := id rfl
theorem add_int (i j : Int) : binD .add (.int i) (.int j) = some (.int (i + j)) := id rfl
theorem sub_int (i j : Int) : binD .sub (.int i) (.int j) = some (.int (i - j)) := id rfl
theorem max_int (i j : Int) : biD .max [.int i, .int j] = some (.int (max i j)) := by
  show some (D.int (if j > i then j else i)) = _
  congr 2
  by_cases h : j > i
  · rw [if_pos h]; omega
  · rw [if_neg h]; omega

/-! ### comprehensions, loops -/
theorem lcF_all {f : D → T → Option (Option D × T)} {g : D → Option D} {s : T} : ∀ {xs : List D}, (∀ x ∈ xs, f x s = some (g x, s)) → lcF f xs s = some (xs.filterMap g, s)
  | [], _ => rfl
  | x :: xs, h => by
    rw [lcF, h x List.mem_cons_self]
    show (lcF f xs s).map _ = _
    rw [lcF_all fun y hy => h y (List.mem_cons_of_mem _ hy)]
    cases e : g x with
    | none => rw [List.filterMap_cons_none e]; rfl
    | some y => rw [List.filterMap_cons_some e]; rfl
/-- every turn gives something, the tape may go on -/
theorem lcF_draw {f : D → T → Option (Option D × T)} {P : D → Prop} : ∀ {xs : List D} {s : T}, TOk s → (∀ x ∈ xs, ∀ s, TOk s → ∃ d s', f x s = some (some d, s') ∧ P d ∧ TOk s') → ∃ ds s', lcF f xs s = some (ds, s') ∧ ds.length = xs.length ∧ (∀ d ∈ ds, P d) ∧ TOk s'
  | [], s, hs, _ => ⟨[], s, rfl, rfl, by simp, hs⟩
  | x :: xs, s, hs, h => by
    obtain ⟨d, s1, e1, p1, t1⟩ := h x List.mem_cons_self s hs
    obtain ⟨ds, s2, e2, l2, p2, t2⟩ := lcF_draw t1 fun y hy => h y (List.mem_cons_of_mem _ hy)
    refine ⟨d :: ds, s2, ?_, by simp [l2], ?_, t2⟩
    · rw [lcF, e1]
      show (lcF f xs s1).map _ = _
      rw [e2]
      rfl
    · intro y hy
      rcases List.mem_cons.mp hy with rfl | hy
      · exact p1
      · exact p2 y hy
/-- a loop that ends or goes on: I by the rest -/
theorem forF_inv {f : D → Env → T → Option R} {Q : R → Prop} {I : List D → Env → T → Prop} (hs : ∀ x xs r s, I (x :: xs) r s → ∃ o, f x r s = some o ∧ match o with
    | .nx r' s' => I xs r' s'
    | .ct r' s' => I xs r' s'
    | .bk r' s' => Q (.nx r' s')
    | .rt d s' => Q (.rt d s')) (hd : ∀ r s, I [] r s → Q (.nx r s)) : ∀ (xs : List D) (r : Env) (s : T), I xs r s → ∃ o, forF f xs r s = some o ∧ Q o
  | [], r, s, h => ⟨_, rfl, hd r s h⟩
  | x :: xs, r, s, h => by
    obtain ⟨o, e, q⟩ := hs x xs r s h
    rw [forF, e]
    cases o with
    | nx r' s' => exact forF_inv hs hd xs r' s' q
    | ct r' s' => exact forF_inv hs hd xs r' s' q
    | bk r' s' => exact ⟨_, rfl, q⟩
    | rt d s' => exact ⟨_, rfl, q⟩

/-! ### the evaluator's equations, one by one -/
section
variable {G : Gl} {wn : Nat} {r : Env} {s : T} {a b c e : E} {es cs : List E}
theorem ev_loc {i : Nat} : ev G (.loc i) r = ⟨fun s => (evV r i).map fun d => (d, s), fun s => (evL r i).map fun d => (d, s), fun s => (evL r i).bind fun d => (truD d).map fun b => (b, s)⟩ := by rw [ev]
theorem ev_con {d : D} : ev G (.con d) r = mk fun s => some (d, s) := by rw [ev]
theorem ev_bin {o : Op} : ev G (.bin o a b) r = mk fun s => ((ev G a r).o s).bind fun p => ((ev G b r).o p.2).bind fun q => (binD o p.1 q.1).map fun d => (d, q.2) := by rw [ev]
theorem ev_neg : ev G (.neg a) r = mk fun s => (intO ((ev G a r).o s)).map fun p => (.int (-p.1), p.2) := by rw [ev]
theorem ev_not : ev G (.not_ a) r = ⟨fun s => ((ev G a r).o s).bind fun p => (truD p.1).map fun b => (.bl (!b), p.2), fun s => ((ev G a r).o s).bind fun p => (truD p.1).map fun b => (.bl (!b), p.2), fun s => ((ev G a r).t s).map fun p => (!p.1, p.2)⟩ := by rw [ev]
theorem ev_and : ev G (.and_ a b) r = ⟨fun s => ((ev G a r).v s).bind fun p => (truD p.1).bind fun k => if k then (ev G b r).v p.2 else some p, fun s => ((ev G a r).v s).bind fun p => (truD p.1).bind fun k => if k then (ev G b r).v p.2 else some p,
      fun s => ((ev G a r).t s).bind fun p => if p.1 then (ev G b r).t p.2 else some (false, p.2)⟩ := by rw [ev]
theorem ev_or : ev G (.or_ a b) r = ⟨fun s => ((ev G a r).v s).bind fun p => (truD p.1).bind fun k => if k then some p else (ev G b r).v p.2, fun s => ((ev G a r).v s).bind fun p => (truD p.1).bind fun k => if k then some p else (ev G b r).v p.2,
      fun s => ((ev G a r).t s).bind fun p => if p.1 then some (true, p.2) else (ev G b r).t p.2⟩ := by rw [ev]
theorem ev_ite : ev G (.ite c a b) r = ⟨fun s => ((ev G c r).t s).bind fun p => if p.1 then (ev G a r).v p.2 else (ev G b r).v p.2, fun s => ((ev G c r).t s).bind fun p => if p.1 then (ev G a r).v p.2 else (ev G b r).v p.2,
      fun s => ((ev G c r).t s).bind fun p => if p.1 then (ev G a r).t p.2 else (ev G b r).t p.2⟩ := by rw [ev]
theorem ev_cmp {o : Cp} : ev G (.cmp o a b) r = mk fun s => ((ev G a r).o s).bind fun p => ((ev G b r).o p.2).bind fun q => (cmpD o p.1 q.1).map fun k => (.bl k, q.2) := by rw [ev]
theorem ev_chain {o o' : Cp} : ev G (.chain o o' a b c) r = mk fun s => ((ev G a r).o s).bind fun p => ((ev G b r).o p.2).bind fun q => (cmpD o p.1 q.1).bind fun k =>
      if k then ((ev G c r).o q.2).bind fun u => (cmpD o' q.1 u.1).map fun k' => (.bl k', u.2) else some (.bl false, q.2) := by rw [ev]
theorem ev_tup : ev G (.tup es) r = mk fun s => (evs G es r s).map fun p => (.tup p.1, p.2) := by rw [ev]
theorem ev_lst : ev G (.lst es) r = mk fun s => (evs G es r s).map fun p => (.lst p.1, p.2) := by rw [ev]
theorem ev_call {f : Nat} : ev G (.call f es) r = mk fun s => (evs G es r s).bind fun p => G.cl f p.1 p.2 := by rw [ev]
theorem ev_bi {b : Bi} : ev G (.bi b es) r = mk fun s => (evos G es r s).bind fun p => (biD b p.1).map fun d => (d, p.2) := by rw [ev]
theorem ev_isi {t : Ty} : ev G (.isi t a) r = mk fun s => ((ev G a r).o s).bind fun p => (isiD t p.1).map fun b => (.bl b, p.2) := by rw [ev]
theorem ev_sub : ev G (.sub a b) r = mk fun s => ((ev G a r).o s).bind fun p => ((ev G b r).o p.2).bind fun q => (subD p.1 q.1).map fun d => (d, q.2) := by rw [ev]
theorem ev_sli {lo hi : Option E} : ev G (.sli a lo hi) r = mk fun s => ((ev G a r).o s).bind fun p => (evo? G lo r p.2).bind fun l => (evo? G hi r l.2).bind fun h => (cutD p.1 l.1 h.1).map fun d => (d, h.2) := by rw [ev]
theorem ev_rev : ev G (.rev a) r = mk fun s => ((ev G a r).o s).bind fun p => if isStr p.1 then none else (revD p.1).map fun d => (d, p.2) := by rw [ev]
theorem evs_nil : evs G [] r s = some ([], s) := by rw [evs]
theorem evs_cons : evs G (e :: es) r s = ((ev G e r).v s).bind fun p => (evs G es r p.2).map fun q => (p.1 :: q.1, q.2) := by rw [evs]
theorem evos_nil : evos G [] r s = some ([], s) := by rw [evos]
theorem evos_cons : evos G (e :: es) r s = ((ev G e r).o s).bind fun p => (evos G es r p.2).map fun q => (p.1 :: q.1, q.2) := by rw [evos]
theorem evts_nil : evts G [] r s = some (true, s) := by rw [evts]
theorem evts_cons : evts G (e :: es) r s = ((ev G e r).t s).bind fun p => if p.1 then evts G es r p.2 else some (false, p.2) := by rw [evts]
theorem evo_none : evo? G none r s = some (none, s) := by rw [evo?]
theorem evo_some : evo? G (some e) r s = (intO ((ev G e r).o s)).map fun p => (some p.1, p.2) := by rw [evo?]
/-- what a comprehension does at a turn -/
def lcT (G : Gl) (own : List Nat) (t : Tg) (cs : List E) (e : E) (r : Env) : D → T → Option (Option D × T) := fun x s => (bindT t x (wipeE r own)).bind fun r' => (evts G cs r' s).bind fun q => if q.1 then ((ev G e r').v q.2).map fun u => (some u.1, u.2) else some (none, q.2)
theorem ev_lc {own : List Nat} {t : Tg} {k : Ik} : ev G (.lc own t k es cs e) r = mk fun s => (evos G es r s).bind fun p => (itD k p.1).bind fun xs => (lcF (lcT G own t cs e r) xs p.2).map fun q => (.lst q.1, q.2) := by rw [ev] <;> rfl
/-- a comprehension that draws nothing -/
theorem lc_o {own : List Nat} {t : Tg} {k : Ik} (xs : List D) (g : D → D) {ds : List D} (h1 : evos G es r s = some (ds, s)) (h2 : itD k ds = some xs) (h3 : ∀ x ∈ xs, ∃ r', bindT t x (wipeE r own) = some r' ∧ (ev G e r').v s = some (g x, s)) :
    (ev G (.lc own t k es [] e) r).o s = some (.lst (xs.map g), s) := by
  rw [ev_lc]
  show (evos G es r s).bind _ = _
  rw [h1]
  show (itD k ds).bind _ = _
  rw [h2]
  show (lcF _ xs s).map _ = _
  rw [lcF_all (g := fun x => some (g x))]
  · rw [show (fun x => some (g x)) = some ∘ g from rfl, List.filterMap_eq_map]
    rfl
  · intro x hx
    obtain ⟨r', e1, e2⟩ := h3 x hx
    unfold lcT
    rw [e1, Option.bind_some, evts_nil, Option.bind_some, if_pos rfl, e2]
    rfl
theorem lc_v {own : List Nat} {t : Tg} {k : Ik} (xs : List D) (g : D → D) {ds : List D} (h1 : evos G es r s = some (ds, s)) (h2 : itD k ds = some xs) (h3 : ∀ x ∈ xs, ∃ r', bindT t x (wipeE r own) = some r' ∧ (ev G e r').v s = some (g x, s)) :
    (ev G (.lc own t k es [] e) r).v s = some (.lst (xs.map g), s) := by
  rw [← lc_o xs g h1 h2 h3, ev_lc]
  rfl
/-- with a test -/
theorem lcc_o {own : List Nat} {t : Tg} {k : Ik} (xs : List D) (p : D → Bool) (g : D → D) {ds : List D} (h1 : evos G es r s = some (ds, s)) (h2 : itD k ds = some xs) (h3 : ∀ x ∈ xs, ∃ r', bindT t x (wipeE r own) = some r' ∧ (ev G c r').t s = some (p x, s) ∧ (p x = true → (ev G e r').v s = some (g x, s))) :
    (ev G (.lc own t k es [c] e) r).o s = some (.lst ((xs.filter p).map g), s) := by
  rw [ev_lc]
  show (evos G es r s).bind _ = _
  rw [h1]
  show (itD k ds).bind _ = _
  rw [h2]
  show (lcF _ xs s).map _ = _
  rw [lcF_all (g := fun x => if p x then some (g x) else none)]
  · have : xs.filterMap (fun x => if p x = true then some (g x) else none) = (xs.filter p).map g := by
      clear h1 h2 h3
      induction xs with
      | nil => rfl
      | cons x xs ih =>
        cases hp : p x with
        | true => simp [hp, ih]
        | false => simp [hp, ih]
    rw [this]
    rfl
  · intro x hx
    obtain ⟨r', e1, e2, e3⟩ := h3 x hx
    unfold lcT
    rw [e1, Option.bind_some, evts_cons, e2, Option.bind_some]
    cases hp : p x with
    | true =>
      rw [if_pos rfl, evts_nil, Option.bind_some, if_pos rfl, e3 hp]
      rfl
    | false => rfl
theorem lcc_v {own : List Nat} {t : Tg} {k : Ik} (xs : List D) (p : D → Bool) (g : D → D) {ds : List D} (h1 : evos G es r s = some (ds, s)) (h2 : itD k ds = some xs) (h3 : ∀ x ∈ xs, ∃ r', bindT t x (wipeE r own) = some r' ∧ (ev G c r').t s = some (p x, s) ∧ (p x = true → (ev G e r').v s = some (g x, s))) :
    (ev G (.lc own t k es [c] e) r).v s = some (.lst ((xs.filter p).map g), s) := by
  rw [← lcc_o xs p g h1 h2 h3, ev_lc]
  rfl
theorem bls_map {α : Type} (p : α → Bool) : ∀ xs : List α, blsOf (xs.map fun x => .bl (p x)) = some (xs.map p)
  | [] => rfl
  | x :: xs => by
    show (blsOf (xs.map _)).map _ = _
    rw [bls_map p xs]
    rfl
theorem bi_all {α : Type} (p : α → Bool) (xs : List α) : biD .all [.lst (xs.map fun x => .bl (p x))] = some (.bl (xs.all p)) := by
  show (blsOf _).map _ = _
  rw [bls_map]
  simp
theorem bi_any {α : Type} (p : α → Bool) (xs : List α) : biD .any [.lst (xs.map fun x => .bl (p x))] = some (.bl (xs.any p)) := by
  show (blsOf _).map _ = _
  rw [bls_map]
  simp

/-! ### statements -/
theorem exs_nil : exs G wn [] r s = some (.nx r s) := by rw [exs]
theorem exs_cons {x : S} {xs : List S} : exs G wn (x :: xs) r s = seqR (ex G wn x r s) fun r s => exs G wn xs r s := by rw [exs]
theorem ex_fz {is : List Nat} {x : S} : ex G wn (.fz is x) r s = ex G wn x (frz is r) s := by rw [ex]
theorem ex_set {i : Nat} {w : Bool} : ex G wn (.set i w e) r s = ((ev G e r).v s).map fun p => .nx (setO r i w p.1) p.2 := by rw [ex]
theorem ex_par {is : List (Nat × Bool)} : ex G wn (.par is es) r s = (evs G es r s).bind fun p => (setOs is p.1 r).map fun r' => .nx r' p.2 := by rw [ex]
theorem ex_tgt {ts : List Tg} : ex G wn (.tgt ts e) r s = ((ev G e r).v s).bind fun p => (bindAll ts p.1 r).map fun r' => .nx r' p.2 := by rw [ex]
theorem ex_aug {i : Nat} {o : Op} : ex G wn (.aug i o e) r s = (evV r i).bind fun x => ((ev G e r).o s).bind fun p => (binD o x p.1).bind fun d => match d with
    | .int k => some (.nx (r.set i (some (false, .int k))) p.2)
    | _ => none := by rw [ex] <;> rfl
theorem ex_app {i : Nat} : ex G wn (.app i e) r s = ((ev G e r).v s).bind fun p => (ownL r i).bind fun xs => if xs.length < szL then some (.nx (r.set i (some (true, .lst (xs ++ [p.1])))) p.2) else none := by rw [ex]
theorem ex_ext {i : Nat} : ex G wn (.ext i e) r s = ((ev G e r).v s).bind fun p => (ownL r i).bind fun xs => match p.1 with
    | .lst ys | .tup ys => if xs.length + ys.length ≤ szL then some (.nx (r.set i (some (true, .lst (xs ++ ys)))) p.2) else none
    | _ => none := by rw [ex] <;> rfl
theorem ex_exp : ex G wn (.exp e) r s = ((ev G e r).v s).map fun p => .nx r p.2 := by rw [ex]
theorem ex_ret : ex G wn (.ret e) r s = ((ev G e r).v s).map fun p => .rt p.1 p.2 := by rw [ex]
theorem ex_ife {xs ys : List S} : ex G wn (.ife c xs ys) r s = ((ev G c r).t s).bind fun p => if p.1 then exs G wn xs r p.2 else exs G wn ys r p.2 := by rw [ex]
theorem ex_brk : ex G wn .brk r s = some (.bk r s) := by rw [ex]
theorem ex_cnt : ex G wn .cnt r s = some (.ct r s) := by rw [ex]
theorem ex_pas : ex G wn .pas r s = some (.nx r s) := by rw [ex]
/-- a loop's turn -/
def foT (G : Gl) (wn : Nat) (t : Tg) (b : List S) : D → Env → T → Option R := fun x r s => (bindT t x r).bind fun r' => exs G wn b r' s
theorem ex_for {t : Tg} {k : Ik} {b : List S} : ex G wn (.for_ t k es b) r s = (evs G es r s).bind fun p => (itD k p.1).bind fun xs => forF (foT G wn t b) xs r p.2 := by rw [ex] <;> rfl
theorem out_ret {xs : List S} : out (exs G wn (.ret e :: xs) r s) = (ev G e r).v s := by
  rw [exs_cons, ex_ret]
  cases h : (ev G e r).v s with
  | none => rfl
  | some p => rfl
theorem out_ife {xs : List S} : out (exs G wn (.ife c [.ret a] [] :: xs) r s) = ((ev G c r).t s).bind fun p => if p.1 then (ev G a r).v p.2 else out (exs G wn xs r p.2) := by
  rw [exs_cons, ex_ife]
  cases h : (ev G c r).t s with
  | none => rfl
  | some p =>
    obtain ⟨b, s'⟩ := p
    cases b with
    | true =>
      show out (seqR (exs G wn [.ret a] r s') _) = (ev G a r).v s'
      rw [← out_ret (wn := wn) (xs := [])]
      cases h : exs G wn [.ret a] r s' with
      | none => rfl
      | some o =>
        rw [exs_cons, ex_ret] at h
        cases h2 : (ev G a r).v s' with
        | none => rw [h2] at h; cases h
        | some p => rw [h2] at h; cases h; rfl
    | false =>
      show out (seqR (exs G wn [] r s') _) = _
      rw [exs_nil]
      rfl
theorem out_set {i : Nat} {w : Bool} {xs : List S} : out (exs G wn (.set i w e :: xs) r s) = ((ev G e r).v s).bind fun p => out (exs G wn xs (setO r i w p.1) p.2) := by
  rw [exs_cons, ex_set]
  cases h : (ev G e r).v s with
  | none => rfl
  | some p => rfl
end
end Ip

/-! PuB: expressions that leave the tape alone: their values, as a calculus. -/
namespace Ip
/-- as an operand and as a test -/
structure Po (G : Gl) (e : E) (r : Env) (d : D) : Prop where
  o : ∀ s, (ev G e r).o s = some (d, s)
  t : ∀ s b, truD d = some b → (ev G e r).t s = some (b, s)
/-- as a value, too -/
structure Pv (G : Gl) (e : E) (r : Env) (d : D) : Prop extends Po G e r d where
  v : ∀ s, (ev G e r).v s = some (d, s)
section
variable {G : Gl} {wn : Nat} {r : Env} {a b c e : E} {es cs : List E} {d x y z : D} {p q : Bool}
theorem Pv.of_mk {f : T → Option (D × T)} (h : ev G e r = Ip.mk f) (hf : ∀ s, f s = some (d, s)) : Pv G e r d := by
  refine ⟨⟨fun s => ?_, fun s b hb => ?_⟩, fun s => ?_⟩
  · rw [h]; exact hf s
  · rw [h]
    show (f s).bind _ = _
    rw [hf s]
    show (truD d).map _ = _
    rw [hb]
    rfl
  · rw [h]; exact hf s
def Pos (G : Gl) : List E → Env → List D → Prop
  | [], _, ds => ds = []
  | e :: es, r, ds => ∃ d ds', ds = d :: ds' ∧ Po G e r d ∧ Pos G es r ds'
def Pvs (G : Gl) : List E → Env → List D → Prop
  | [], _, ds => ds = []
  | e :: es, r, ds => ∃ d ds', ds = d :: ds' ∧ Pv G e r d ∧ Pvs G es r ds'
theorem Pos.ev : ∀ {es : List E} {ds : List D}, Pos G es r ds → ∀ s, evos G es r s = some (ds, s)
  | [], _, h, s => by rw [evos_nil, show _ = _ from h]
  | e :: es, _, ⟨d, ds', rfl, h1, h2⟩, s => by
    rw [evos_cons, h1.o, Option.bind_some, Pos.ev h2 s]
    rfl
theorem Pvs.ev : ∀ {es : List E} {ds : List D}, Pvs G es r ds → ∀ s, evs G es r s = some (ds, s)
  | [], _, h, s => by rw [evs_nil, show _ = _ from h]
  | e :: es, _, ⟨d, ds', rfl, h1, h2⟩, s => by
    rw [evs_cons, h1.v, Option.bind_some, Pvs.ev h2 s]
    rfl
theorem pos_nil : Pos G [] r [] := rfl
theorem pos_cons {ds : List D} (h1 : Po G e r d) (h2 : Pos G es r ds) : Pos G (e :: es) r (d :: ds) := ⟨d, ds, rfl, h1, h2⟩
theorem pvs_nil : Pvs G [] r [] := rfl
theorem pvs_cons {ds : List D} (h1 : Pv G e r d) (h2 : Pvs G es r ds) : Pvs G (e :: es) r (d :: ds) := ⟨d, ds, rfl, h1, h2⟩
theorem po_loc {i : Nat} {w : Bool} (h : r[i]? = some (some (w, d))) : Po G (.loc i) r d := by
  have e : evL r i = some d := by unfold evL; rw [h]
  refine ⟨fun s => ?_, fun s b hb => ?_⟩
  · rw [ev_loc]
    show (evL r i).map _ = _
    rw [e]
    rfl
  · rw [ev_loc]
    show (evL r i).bind _ = _
    rw [e]
    show (truD d).map _ = _
    rw [hb]
    rfl
theorem pv_loc {i : Nat} (h : r[i]? = some (some (false, d))) : Pv G (.loc i) r d := by
  have e : evV r i = some d := by unfold evV; rw [h]
  refine ⟨po_loc h, fun s => ?_⟩
  rw [ev_loc]
  show (evV r i).map _ = _
  rw [e]
  rfl
theorem pv_con : Pv G (.con d) r d := .of_mk ev_con fun _ => rfl
theorem pv_bin {o : Op} (ha : Po G a r x) (hb : Po G b r y) (h : binD o x y = some d) : Pv G (.bin o a b) r d := .of_mk ev_bin fun s => by rw [ha.o, Option.bind_some, hb.o, Option.bind_some, h]; rfl
theorem pv_neg {i : Int} (ha : Po G a r (.int i)) : Pv G (.neg a) r (.int (-i)) := .of_mk ev_neg fun s => by rw [ha.o]; rfl
theorem pv_not (ha : Po G a r x) (h : truD x = some p) : Pv G (.not_ a) r (.bl (!p)) := by
  refine ⟨⟨fun s => ?_, fun s b hb => ?_⟩, fun s => ?_⟩
  · rw [ev_not]
    show ((ev G a r).o s).bind _ = _
    rw [ha.o, Option.bind_some, h]
    rfl
  · cases hb
    rw [ev_not]
    show ((ev G a r).t s).map _ = _
    rw [ha.t s p h]
    rfl
  · rw [ev_not]
    show ((ev G a r).o s).bind _ = _
    rw [ha.o, Option.bind_some, h]
    rfl
theorem pv_and (ha : Pv G a r (.bl p)) (hb : p = true → Pv G b r (.bl q)) : Pv G (.and_ a b) r (.bl (p && q)) := by
  have v : ∀ s, (ev G (.and_ a b) r).v s = some (.bl (p && q), s) := fun s => by
    rw [ev_and]
    show ((ev G a r).v s).bind _ = _
    rw [ha.v, Option.bind_some]
    cases p with
    | true => show (ev G b r).v s = _; rw [(hb rfl).v]; rfl
    | false => rfl
  refine ⟨⟨fun s => ?_, fun s b' hb' => ?_⟩, v⟩
  · have := v s
    rw [ev_and] at this ⊢
    exact this
  · cases hb'
    rw [ev_and]
    show ((ev G a r).t s).bind _ = _
    rw [ha.t s p rfl, Option.bind_some]
    cases p with
    | true => show (ev G b r).t s = _; rw [(hb rfl).t s q rfl]; rfl
    | false => rfl
theorem pv_or (ha : Pv G a r (.bl p)) (hb : p = false → Pv G b r (.bl q)) : Pv G (.or_ a b) r (.bl (p || q)) := by
  have v : ∀ s, (ev G (.or_ a b) r).v s = some (.bl (p || q), s) := fun s => by
    rw [ev_or]
    show ((ev G a r).v s).bind _ = _
    rw [ha.v, Option.bind_some]
    cases p with
    | false => show (ev G b r).v s = _; rw [(hb rfl).v]; rfl
    | true => rfl
  refine ⟨⟨fun s => ?_, fun s b' hb' => ?_⟩, v⟩
  · have := v s
    rw [ev_or] at this ⊢
    exact this
  · cases hb'
    rw [ev_or]
    show ((ev G a r).t s).bind _ = _
    rw [ha.t s p rfl, Option.bind_some]
    cases p with
    | false => show (ev G b r).t s = _; rw [(hb rfl).t s q rfl]; rfl
    | true => rfl
theorem pv_and0 (ha : Pv G a r (.bl false)) : Pv G (.and_ a b) r (.bl false) := pv_and (q := false) ha (fun h => nomatch h)
theorem pv_or1 (ha : Pv G a r (.bl true)) : Pv G (.or_ a b) r (.bl true) := pv_or (q := false) ha (fun h => nomatch h)
theorem pv_ite (hc : Po G c r z) (hz : truD z = some p) (ha : p = true → Pv G a r d) (hb : p = false → Pv G b r d) : Pv G (.ite c a b) r d := by
  have v : ∀ s, (ev G (.ite c a b) r).v s = some (d, s) := fun s => by
    rw [ev_ite]
    show ((ev G c r).t s).bind _ = _
    rw [hc.t s p hz, Option.bind_some]
    cases p with
    | true => exact (ha rfl).v s
    | false => exact (hb rfl).v s
  refine ⟨⟨fun s => ?_, fun s b' hb' => ?_⟩, v⟩
  · have := v s
    rw [ev_ite] at this ⊢
    exact this
  · rw [ev_ite]
    show ((ev G c r).t s).bind _ = _
    rw [hc.t s p hz, Option.bind_some]
    cases p with
    | true => exact (ha rfl).t s b' hb'
    | false => exact (hb rfl).t s b' hb'
theorem pv_cmp {o : Cp} (ha : Po G a r x) (hb : Po G b r y) (h : cmpD o x y = some p) : Pv G (.cmp o a b) r (.bl p) := .of_mk ev_cmp fun s => by rw [ha.o, Option.bind_some, hb.o, Option.bind_some, h]; rfl
theorem pv_chain {o o' : Cp} (ha : Po G a r x) (hb : Po G b r y) (h : cmpD o x y = some p) (hc : p = true → Po G c r z) (h' : p = true → cmpD o' y z = some q) : Pv G (.chain o o' a b c) r (.bl (p && q)) := .of_mk ev_chain fun s => by
  rw [ha.o, Option.bind_some, hb.o, Option.bind_some, h, Option.bind_some]
  cases p with
  | true => rw [if_pos rfl, (hc rfl).o, Option.bind_some, h' rfl]; rfl
  | false => rfl
theorem pv_tup {ds : List D} (h : Pvs G es r ds) : Pv G (.tup es) r (.tup ds) := .of_mk ev_tup fun s => by rw [h.ev]; rfl
theorem pv_lst {ds : List D} (h : Pvs G es r ds) : Pv G (.lst es) r (.lst ds) := .of_mk ev_lst fun s => by rw [h.ev]; rfl
theorem pv_call {f : Nat} {ds : List D} (h : Pvs G es r ds) (hc : ∀ s, G.cl f ds s = some (d, s)) : Pv G (.call f es) r d := .of_mk ev_call fun s => by rw [h.ev, Option.bind_some]; exact hc s
theorem pv_bi {o : Bi} {ds : List D} (h : Pos G es r ds) (hc : biD o ds = some d) : Pv G (.bi o es) r d := .of_mk ev_bi fun s => by rw [h.ev, Option.bind_some, hc]; rfl
theorem pv_isi {t : Ty} (ha : Po G a r x) (h : pl 60 x = true) : Pv G (.isi t a) r (.bl (isiB t x)) := .of_mk ev_isi fun s => by
  rw [ha.o, Option.bind_some]
  show (isiD t x).map _ = _
  unfold isiD
  rw [if_pos h]
  rfl
theorem pv_sub (ha : Po G a r x) (hb : Po G b r y) (h : subD x y = some d) : Pv G (.sub a b) r d := .of_mk ev_sub fun s => by rw [ha.o, Option.bind_some, hb.o, Option.bind_some, h]; rfl
/-- a slice's end -/
def Pe (G : Gl) (r : Env) : Option E → Option Int → Prop
  | none, o => o = none
  | some e, o => ∃ i, o = some i ∧ Po G e r (.int i)
theorem pe_none : Pe G r none none := rfl
theorem pe_some {i : Int} (h : Po G e r (.int i)) : Pe G r (some e) (some i) := ⟨i, rfl, h⟩
theorem Pe.ev : ∀ {e : Option E} {o : Option Int}, Pe G r e o → ∀ s, evo? G e r s = some (o, s)
  | none, _, h, s => by rw [evo_none, show _ = _ from h]
  | some e, _, ⟨i, rfl, h⟩, s => by rw [evo_some, h.o]; rfl
theorem pv_sli {lo hi : Option E} {l h : Option Int} (ha : Po G a r x) (hl : Pe G r lo l) (hh : Pe G r hi h) (hc : cutD x l h = some d) : Pv G (.sli a lo hi) r d := .of_mk ev_sli fun s => by rw [ha.o, Option.bind_some, hl.ev, Option.bind_some, hh.ev, Option.bind_some, hc]; rfl
theorem pv_rev (ha : Po G a r x) (h0 : isStr x = false) (h : revD x = some d) : Pv G (.rev a) r d := .of_mk ev_rev fun s => by rw [ha.o, Option.bind_some, h0, if_neg (by decide), h]; rfl
theorem pv_lc {own : List Nat} {t : Tg} {k : Ik} {ds : List D} (xs : List D) (g : D → D) (h1 : Pos G es r ds) (h2 : itD k ds = some xs) (h3 : ∀ x ∈ xs, ∃ r', bindT t x (wipeE r own) = some r' ∧ Pv G e r' (g x)) : Pv G (.lc own t k es [] e) r (.lst (xs.map g)) := by
  have o : ∀ s, (ev G (.lc own t k es [] e) r).o s = some (.lst (xs.map g), s) := fun s => lc_o xs g (h1.ev s) h2 fun x hx => by
    obtain ⟨r', e1, e2⟩ := h3 x hx
    exact ⟨r', e1, e2.v s⟩
  exact .of_mk ev_lc fun s => by
    have := o s
    rw [ev_lc] at this
    exact this
theorem pv_lcc {own : List Nat} {t : Tg} {k : Ik} {ds : List D} (xs : List D) (f : D → Bool) (g : D → D) (h1 : Pos G es r ds) (h2 : itD k ds = some xs) (h3 : ∀ x ∈ xs, ∃ r', bindT t x (wipeE r own) = some r' ∧ Po G c r' (.bl (f x)) ∧ (f x = true → Pv G e r' (g x))) : Pv G (.lc own t k es [c] e) r (.lst ((xs.filter f).map g)) := by
  have o : ∀ s, (ev G (.lc own t k es [c] e) r).o s = some (.lst ((xs.filter f).map g), s) := fun s => lcc_o xs f g (h1.ev s) h2 fun x hx => by
    obtain ⟨r', e1, e2, e3⟩ := h3 x hx
    exact ⟨r', e1, e2.t s _ rfl, fun hp => (e3 hp).v s⟩
  exact .of_mk ev_lc fun s => by
    have := o s
    rw [ev_lc] at this
    exact this
theorem pv_all {own : List Nat} {t : Tg} {k : Ik} {ds : List D} (xs : List D) (g : D → Bool) (h1 : Pos G es r ds) (h2 : itD k ds = some xs) (h3 : ∀ x ∈ xs, ∃ r', bindT t x (wipeE r own) = some r' ∧ Pv G e r' (.bl (g x))) : Pv G (.bi .all [.lc own t k es [] e]) r (.bl (xs.all g)) :=
  pv_bi (pos_cons (pv_lc xs (fun x => .bl (g x)) h1 h2 h3).toPo pos_nil) (bi_all g xs)
theorem pv_any {own : List Nat} {t : Tg} {k : Ik} {ds : List D} (xs : List D) (g : D → Bool) (h1 : Pos G es r ds) (h2 : itD k ds = some xs) (h3 : ∀ x ∈ xs, ∃ r', bindT t x (wipeE r own) = some r' ∧ Pv G e r' (.bl (g x))) : Pv G (.bi .any [.lc own t k es [] e]) r (.bl (xs.any g)) :=
  pv_bi (pos_cons (pv_lc xs (fun x => .bl (g x)) h1 h2 h3).toPo pos_nil) (bi_any g xs)
/-! with a tape that goes on -/
section
variable {s s1 s2 : T}
theorem and_t (h : (ev G a r).t s = some (true, s1)) : (ev G (.and_ a b) r).t s = (ev G b r).t s1 := by
  rw [ev_and]
  show ((ev G a r).t s).bind _ = _
  rw [h]
  rfl
theorem cmp_t {o : Cp} (ha : (ev G a r).o s = some (x, s1)) (hb : (ev G b r).o s1 = some (y, s2)) (h : cmpD o x y = some p) : (ev G (.cmp o a b) r).t s = some (p, s2) := by
  rw [ev_cmp]
  show ((((ev G a r).o s).bind _).bind _) = _
  rw [ha, Option.bind_some, hb, Option.bind_some, h]
  rfl
theorem bin_o {o : Op} (ha : (ev G a r).o s = some (x, s1)) (hb : (ev G b r).o s1 = some (y, s2)) (h : binD o x y = some d) : (ev G (.bin o a b) r).o s = some (d, s2) := by
  rw [ev_bin]
  show (((ev G a r).o s).bind _) = _
  rw [ha, Option.bind_some, hb, Option.bind_some, h]
  rfl
theorem bin_v {o : Op} (ha : (ev G a r).o s = some (x, s1)) (hb : (ev G b r).o s1 = some (y, s2)) (h : binD o x y = some d) : (ev G (.bin o a b) r).v s = some (d, s2) := by
  rw [ev_bin]
  show (((ev G a r).o s).bind _) = _
  rw [ha, Option.bind_some, hb, Option.bind_some, h]
  rfl
theorem sub_v (ha : (ev G a r).o s = some (x, s1)) (hb : (ev G b r).o s1 = some (y, s2)) (h : subD x y = some d) : (ev G (.sub a b) r).v s = some (d, s2) := by
  rw [ev_sub]
  show (((ev G a r).o s).bind _) = _
  rw [ha, Option.bind_some, hb, Option.bind_some, h]
  rfl
theorem tup_o {ds : List D} (h : evs G es r s = some (ds, s1)) : (ev G (.tup es) r).o s = some (.tup ds, s1) := by
  rw [ev_tup]
  show (evs G es r s).map _ = _
  rw [h]
  rfl
theorem tup_v {ds : List D} (h : evs G es r s = some (ds, s1)) : (ev G (.tup es) r).v s = some (.tup ds, s1) := by
  rw [ev_tup]
  show (evs G es r s).map _ = _
  rw [h]
  rfl
theorem evs_one' (h : (ev G e r).v s = some (d, s1)) : evs G [e] r s = some ([d], s1) := by
  rw [evs_cons, h, Option.bind_some, evs_nil]
  rfl
theorem efor' {wn : Nat} {t : Tg} {k : Ik} {bd : List S} {ds ys : List D} (h : evs G es r s = some (ds, s1)) (hi : itD k ds = some ys) : ex G wn (.for_ t k es bd) r s = forF (foT G wn t bd) ys r s1 := by
  rw [ex_for, h, Option.bind_some, hi, Option.bind_some]
theorem bi_v {o : Bi} {ds : List D} (h : evos G es r s = some (ds, s1)) (hc : biD o ds = some d) : (ev G (.bi o es) r).v s = some (d, s1) := by
  rw [ev_bi]
  show (evos G es r s).bind _ = _
  rw [h, Option.bind_some, hc]
  rfl
theorem evos_one'' (h : (ev G e r).o s = some (d, s1)) : evos G [e] r s = some ([d], s1) := by
  rw [evos_cons, h, Option.bind_some, evos_nil]
  rfl
/-- a comprehension that draws -/
theorem lc_draw {own : List Nat} {t : Tg} {k : Ik} {ds xs : List D} {P : D → Prop} (h : evos G es r s = some (ds, s1)) (hi : itD k ds = some xs) (hs : TOk s1) (hf : ∀ x ∈ xs, ∃ r', bindT t x (wipeE r own) = some r' ∧ ∀ s, TOk s → ∃ d s', (ev G e r').v s = some (d, s') ∧ P d ∧ TOk s') :
    ∃ us s2, (ev G (.lc own t k es [] e) r).o s = some (.lst us, s2) ∧ (ev G (.lc own t k es [] e) r).v s = some (.lst us, s2) ∧ us.length = xs.length ∧ (∀ u ∈ us, P u) ∧ TOk s2 := by
  obtain ⟨us, s2, e1, h1, h2, h3⟩ := lcF_draw (f := lcT G own t [] e r) (P := P) hs (xs := xs) fun x hx s hs => by
    obtain ⟨r', e1, e2⟩ := hf x hx
    obtain ⟨d, s', e3, p, t'⟩ := e2 s hs
    refine ⟨d, s', ?_, p, t'⟩
    unfold lcT
    rw [e1, Option.bind_some, evts_nil, Option.bind_some, if_pos rfl, e3]
    rfl
  have v : (ev G (.lc own t k es [] e) r).v s = some (.lst us, s2) := by
    rw [ev_lc]
    show (evos G es r s).bind _ = _
    rw [h, Option.bind_some, hi, Option.bind_some, e1]
    rfl
  refine ⟨us, s2, ?_, v, h1, h2, h3⟩
  rw [← v, ev_lc]
  rfl
theorem set_nx {wn : Nat} {i : Nat} (h : (ev G e r).v s = some (d, s1)) : ex G wn (.set i false e) r s = some (.nx (r.set i (some (false, d))) s1) := by
  rw [ex_set, h]
  rfl
theorem app_nx {wn : Nat} {i : Nat} {zs : List D} (h : (ev G e r).v s = some (d, s1)) (ho : ownL r i = some zs) (hz : zs.length < szL) : ex G wn (.app i e) r s = some (.nx (r.set i (some (true, .lst (zs ++ [d])))) s1) := by
  rw [ex_app, h, Option.bind_some, ho, Option.bind_some, if_pos hz]
end
/-! statements -/
variable {s : T} {xs : List S}
theorem Pv.ret (h : Pv G e r d) : out (exs G wn (.ret e :: xs) r s) = some (d, s) := by rw [out_ret, h.v]
theorem Po.ife (h : Po G c r d) (hd : truD d = some p) : out (exs G wn (.ife c [.ret a] [] :: xs) r s) = if p then (ev G a r).v s else out (exs G wn xs r s) := by rw [out_ife, h.t s p hd, Option.bind_some]
theorem Pv.set {i : Nat} (h : Pv G e r d) : out (exs G wn (.set i false e :: xs) r s) = out (exs G wn xs (r.set i (some (false, d))) s) := by
  rw [out_set, h.v, Option.bind_some]
  rfl
theorem Pv.setT {i : Nat} {zs : List D} (h : Pv G e r (.lst zs)) : out (exs G wn (.set i true e :: xs) r s) = out (exs G wn xs (r.set i (some (true, .lst zs))) s) := by
  rw [out_set, h.v, Option.bind_some]
  rfl
theorem exs_nx {x : S} {r' : Env} {s' : T} (h : ex G wn x r s = some (.nx r' s')) : exs G wn (x :: xs) r s = exs G wn xs r' s' := by rw [exs_cons, h]; rfl
theorem exs_rt {x : S} {s' : T} (h : ex G wn x r s = some (.rt d s')) : exs G wn (x :: xs) r s = some (.rt d s') := by rw [exs_cons, h]; rfl
theorem Pv.eset {i : Nat} (h : Pv G e r d) : ex G wn (.set i false e) r s = some (.nx (r.set i (some (false, d))) s) := by
  rw [ex_set, h.v]
  rfl
theorem Pv.esetT {i : Nat} {zs : List D} (h : Pv G e r (.lst zs)) : ex G wn (.set i true e) r s = some (.nx (r.set i (some (true, .lst zs))) s) := by
  rw [ex_set, h.v]
  rfl
theorem Pv.eret (h : Pv G e r d) : ex G wn (.ret e) r s = some (.rt d s) := by
  rw [ex_ret, h.v]
  rfl
theorem Po.eife {as bs : List S} (h : Po G c r d) (hd : truD d = some p) : ex G wn (.ife c as bs) r s = if p then exs G wn as r s else exs G wn bs r s := by
  rw [ex_ife, h.t s p hd]
  rfl
theorem Pv.eapp {i : Nat} {zs : List D} (h : Pv G e r d) (ho : ownL r i = some zs) (hz : zs.length < szL) : ex G wn (.app i e) r s = some (.nx (r.set i (some (true, .lst (zs ++ [d])))) s) := by
  rw [ex_app, h.v, Option.bind_some, ho, Option.bind_some, if_pos hz]
theorem Pv.eext {i : Nat} {zs ys : List D} (h : Pv G e r (.lst ys)) (ho : ownL r i = some zs) (hz : zs.length + ys.length ≤ szL) : ex G wn (.ext i e) r s = some (.nx (r.set i (some (true, .lst (zs ++ ys)))) s) := by
  rw [ex_ext, h.v, Option.bind_some, ho, Option.bind_some]
  exact if_pos hz
theorem out_nx {r' : Env} {s' : T} {x : S} (h : ex G wn x r s = some (.nx r' s')) : out (exs G wn (x :: xs) r s) = out (exs G wn xs r' s') := by rw [exs_nx h]
theorem efor {t : Tg} {k : Ik} {b : List S} {ds ys : List D} (h : Pvs G es r ds) (hi : itD k ds = some ys) : ex G wn (.for_ t k es b) r s = forF (foT G wn t b) ys r s := by
  rw [ex_for, h.ev, Option.bind_some, hi, Option.bind_some]
def aft (G : Gl) (wn : Nat) (xs : List S) : R → Option (D × T)
  | .nx r' s' => out (exs G wn xs r' s')
  | .rt d s' => some (d, s')
  | _ => none
theorem aft_ret (h : Pv G e r d) : aft G wn (.ret e :: xs) (.nx r s) = some (d, s) := h.ret
theorem out_for {t : Tg} {k : Ik} {b : List S} {ds ys : List D} {o : R} (h : Pvs G es r ds) (hi : itD k ds = some ys) (hf : forF (foT G wn t b) ys r s = some o) : out (exs G wn (.for_ t k es b :: xs) r s) = aft G wn xs o := by
  rw [exs_cons, ex_for, h.ev, Option.bind_some, hi, Option.bind_some, hf]
  cases o <;> rfl
end

/-! ### reading sequences -/
theorem ixP_nat {n i : Nat} (h : i < n) : ixP n (i : Int) = some i := by
  unfold ixP
  rw [if_pos (by omega), if_pos (by omega)]
  simp
theorem sub_tup {xs : List D} {i : Nat} {d : D} (h : xs[i]? = some d) : subD (.tup xs) (.int (i : Int)) = some d := by
  have hl : i < xs.length := (List.getElem?_eq_some_iff.mp h).1
  show (ixP xs.length (i : Int)).bind _ = _
  rw [ixP_nat hl]
  exact h
theorem sub_lst {xs : List D} {i : Nat} {d : D} (h : xs[i]? = some d) : subD (.lst xs) (.int (i : Int)) = some d := by
  have hl : i < xs.length := (List.getElem?_eq_some_iff.mp h).1
  show (ixP xs.length (i : Int)).bind _ = _
  rw [ixP_nat hl]
  exact h
theorem sub_lst0 {d : D} {ds : List D} : subD (.lst (d :: ds)) (.int 0) = some d := sub_lst (i := 0) rfl
theorem sub_tup0 {d : D} {ds : List D} : subD (.tup (d :: ds)) (.int 0) = some d := sub_tup (i := 0) rfl
theorem rng0 {n : Nat} (h : n ≤ szL) : itD .rng [.int (n : Int)] = some (rngL 0 n) := by
  show (if (n : Int) ≤ (szL : Int) ∧ -1000000 ≤ (n : Int) then some (rngL 0 (n : Int).toNat) else none) = _
  rw [if_pos ⟨by omega, by omega⟩]
  simp
theorem mem_rngL {n : Nat} {x : D} (h : x ∈ rngL 0 n) : ∃ i : Nat, i < n ∧ x = .int (i : Int) := by
  unfold rngL at h
  obtain ⟨i, hi, e⟩ := List.mem_map.mp h
  exact ⟨i, List.mem_range.mp hi, by rw [← e, Int.zero_add]⟩
theorem all_rngL {n : Nat} {p : D → Bool} : (rngL 0 n).all p = true ↔ ∀ i : Nat, i < n → p (.int (i : Int)) = true := by
  unfold rngL
  rw [List.all_eq_true]
  constructor
  · intro h i hi
    have := h (.int (0 + (i : Int))) (List.mem_map.mpr ⟨i, List.mem_range.mpr hi, rfl⟩)
    rw [Int.zero_add] at this
    exact this
  · intro h x hx
    obtain ⟨i, hi, e⟩ := List.mem_map.mp hx
    rw [← e, Int.zero_add]
    exact h i (List.mem_range.mp hi)
theorem any_rngL {n : Nat} {p : D → Bool} : (rngL 0 n).any p = true ↔ ∃ i : Nat, i < n ∧ p (.int (i : Int)) = true := by
  unfold rngL
  rw [List.any_eq_true]
  constructor
  · rintro ⟨x, hx, h⟩
    obtain ⟨i, hi, e⟩ := List.mem_map.mp hx
    rw [← e, Int.zero_add] at h
    exact ⟨i, List.mem_range.mp hi, h⟩
  · rintro ⟨i, hi, h⟩
    exact ⟨.int (0 + (i : Int)), List.mem_map.mpr ⟨i, List.mem_range.mpr hi, rfl⟩, by rw [Int.zero_add]; exact h⟩

/-! ### sorting -/
theorem insB_end {α : Type} {lt : α → α → Bool} {x : α} : ∀ {ys : List α}, (∀ y ∈ ys, lt x y = false) → insB lt x ys = ys ++ [x]
  | [], _ => rfl
  | y :: ys, h => by
    unfold insB
    rw [h y List.mem_cons_self, if_neg (by decide), insB_end fun z hz => h z (List.mem_cons_of_mem _ hz)]
    rfl
theorem foldl_end {α : Type} {lt : α → α → Bool} : ∀ {xs acc : List α}, (acc ++ xs).Pairwise (fun a b => lt b a = false) → xs.foldl (fun acc x => insB lt x acc) acc = acc ++ xs
  | [], acc, _ => by simp
  | x :: xs, acc, h => by
    rw [List.foldl_cons, insB_end]
    · rw [foldl_end (by rw [List.append_assoc]; exact h), List.append_assoc]
      rfl
    · intro y hy
      exact (List.pairwise_append.mp h).2.2 y hy x List.mem_cons_self
/-- what stands in order stays -/
theorem sortB_id {α : Type} {lt : α → α → Bool} {xs : List α} (h : xs.Pairwise (fun a b => lt b a = false)) : sortB lt xs = xs := by
  unfold sortB
  rw [foldl_end (by simpa using h)]
  rfl
theorem mem_insB {α : Type} {lt : α → α → Bool} {x y : α} : ∀ {ys : List α}, y ∈ insB lt x ys ↔ y = x ∨ y ∈ ys
  | [] => by simp [insB]
  | z :: ys => by
    unfold insB
    split
    · simp
    · rw [List.mem_cons, mem_insB, List.mem_cons]
      constructor
      · rintro (h | h | h)
        · exact .inr (.inl h)
        · exact .inl h
        · exact .inr (.inr h)
      · rintro (h | h | h)
        · exact .inr (.inl h)
        · exact .inl h
        · exact .inr (.inr h)
theorem insP_sorted {α : Type} {lt : α → α → Bool} (tr : ∀ a b c, lt b a = false → lt c b = false → lt c a = false) (asym : ∀ a b, lt a b = true → lt b a = false) {x : α} : ∀ {ys : List α}, ys.Pairwise (fun a b => lt b a = false) → (insB lt x ys).Pairwise (fun a b => lt b a = false)
  | [], _ => by simp [insB]
  | y :: ys, h => by
    unfold insB
    split
    · rename_i hx
      refine List.pairwise_cons.mpr ⟨fun z hz => ?_, h⟩
      rcases List.mem_cons.mp hz with rfl | hz
      · exact asym _ _ hx
      · exact tr _ _ _ (asym _ _ hx) ((List.pairwise_cons.mp h).1 z hz)
    · rename_i hx
      refine List.pairwise_cons.mpr ⟨fun z hz => ?_, insP_sorted tr asym (List.pairwise_cons.mp h).2⟩
      rcases mem_insB.mp hz with rfl | hz
      · exact Bool.eq_false_iff.mpr hx
      · exact (List.pairwise_cons.mp h).1 z hz
theorem foldl_sorted {α : Type} {lt : α → α → Bool} (tr : ∀ a b c, lt b a = false → lt c b = false → lt c a = false) (asym : ∀ a b, lt a b = true → lt b a = false) : ∀ {xs acc : List α}, acc.Pairwise (fun a b => lt b a = false) → (xs.foldl (fun acc x => insB lt x acc) acc).Pairwise (fun a b => lt b a = false)
  | [], _, h => h
  | x :: xs, acc, h => by
    rw [List.foldl_cons]
    exact foldl_sorted tr asym (insP_sorted tr asym h)
theorem sortB_sorted {α : Type} {lt : α → α → Bool} (tr : ∀ a b c, lt b a = false → lt c b = false → lt c a = false) (asym : ∀ a b, lt a b = true → lt b a = false) (xs : List α) : (sortB lt xs).Pairwise (fun a b => lt b a = false) := foldl_sorted tr asym List.Pairwise.nil
theorem mem_foldl {α : Type} {lt : α → α → Bool} {y : α} : ∀ {xs acc : List α}, y ∈ xs.foldl (fun acc x => insB lt x acc) acc ↔ y ∈ xs ∨ y ∈ acc
  | [], acc => by simp
  | x :: xs, acc => by
    rw [List.foldl_cons, mem_foldl, mem_insB, List.mem_cons]
    constructor
    · rintro (h | h | h)
      · exact .inl (.inr h)
      · exact .inl (.inl h)
      · exact .inr h
    · rintro ((h | h) | h)
      · exact .inr (.inl h)
      · exact .inl h
      · exact .inr (.inr h)
theorem mem_sortB {α : Type} {lt : α → α → Bool} {y : α} {xs : List α} : y ∈ sortB lt xs ↔ y ∈ xs := by
  unfold sortB
  rw [mem_foldl]
  simp
theorem insB_map {α β : Type} {lt : α → α → Bool} {lu : β → β → Bool} {f : α → β} (h : ∀ a b, lu (f a) (f b) = lt a b) {x : α} : ∀ {ys : List α}, insB lu (f x) (ys.map f) = (insB lt x ys).map f
  | [] => rfl
  | y :: ys => by
    rw [List.map_cons]
    unfold insB
    rw [h]
    split
    · rfl
    · rw [insB_map h]; rfl
theorem sortB_map {α β : Type} {lt : α → α → Bool} {lu : β → β → Bool} {f : α → β} (h : ∀ a b, lu (f a) (f b) = lt a b) (xs : List α) : sortB lu (xs.map f) = (sortB lt xs).map f := by
  have : ∀ (xs acc : List α), (xs.map f).foldl (fun acc x => insB lu x acc) (acc.map f) = (xs.foldl (fun acc x => insB lt x acc) acc).map f := by
    intro xs
    induction xs with
    | nil => intro acc; rfl
    | cons x xs ih =>
      intro acc
      rw [List.map_cons, List.foldl_cons, List.foldl_cons, insB_map h, ih]
  exact this xs []
/-- numbers -/
def ltI (a b : Int) : Bool := decide (a < b)
theorem sort_ints (ns : List Int) : sortD (ns.map .int) = (sortB ltI ns).map .int := sortB_map (fun _ _ => rfl) ns
theorem sortI_sorted (ns : List Int) : (sortB ltI ns).Pairwise (· ≤ ·) := (sortB_sorted (lt := ltI) (fun a b c h1 h2 => by simp [ltI] at *; omega) (fun a b h => by simp [ltI] at *; omega) ns).imp fun h => by simp [ltI] at h; exact h
theorem sortI_iff {ns : List Int} : sortB ltI ns = ns ↔ ns.Pairwise (· ≤ ·) := by
  constructor
  · intro h
    have := sortI_sorted ns
    rw [h] at this
    exact this
  · intro h
    exact sortB_id (h.imp fun h => by simp [ltI]; exact h)
theorem sortable_ints (ns : List Int) : sortable (ns.map .int) = true := by
  simp [sortable, alikeD, pl, isAtom, isNon]
theorem eqDs_ints : ∀ (ns ms : List Int), eqDs (ns.map .int) (ms.map .int) = decide (ns = ms)
  | [], [] => by simp [eqDs]
  | [], _ :: _ => by simp [eqDs]
  | _ :: _, [] => by simp [eqDs]
  | n :: ns, m :: ms => by
    simp only [List.map_cons, eqDs, eqD, eqDs_ints ns ms]
    rw [Bool.eq_iff_iff]
    simp
theorem all_pl_ints (n : Nat) (ns : List Int) : (ns.map D.int).all (pl n) = true := by
  rw [List.all_eq_true]
  intro x hx
  obtain ⟨i, _, rfl⟩ := List.mem_map.mp hx
  cases n <;> rfl
end Ip

/-! PuV: what a text of the language does, as conditions to be shown. -/
namespace Ip
/-! ### less known slots -/
def LeE : Env → Env → Prop
  | [], [] => True
  | none :: a, _ :: b => LeE a b
  | some p :: a, q :: b => q = some p ∧ LeE a b
  | _, _ => False
theorem LeE.refl : ∀ r : Env, LeE r r
  | [] => trivial
  | none :: a => LeE.refl a
  | some _ :: a => ⟨rfl, LeE.refl a⟩
theorem LeE.trans : ∀ {a b c : Env}, LeE a b → LeE b c → LeE a c
  | [], [], [], _, _ => trivial
  | none :: a, x :: b, [], _, h => by cases x <;> simp [LeE] at h
  | none :: a, none :: b, _ :: c, h, h' => LeE.trans (a := a) (b := b) (c := c) h h'
  | none :: a, some _ :: b, _ :: c, h, h' => LeE.trans (a := a) (b := b) (c := c) h h'.2
  | some p :: a, x :: b, [], _, h => by cases x <;> simp [LeE] at h
  | some p :: a, x :: b, y :: c, h, h' => by
    obtain ⟨rfl, h⟩ := h
    exact ⟨h'.1, LeE.trans h h'.2⟩
  | [], [], _ :: _, _, h => by simp [LeE] at h
  | [], _ :: _, _, h, _ => by simp [LeE] at h
  | none :: _, [], _, h, _ => by simp [LeE] at h
  | some _ :: _, [], _, h, _ => by simp [LeE] at h
theorem LeE.len : ∀ {a b : Env}, LeE a b → a.length = b.length
  | [], [], _ => rfl
  | none :: a, _ :: b, h => by rw [List.length_cons, List.length_cons, LeE.len (a := a) (b := b) h]
  | some _ :: a, _ :: b, h => by rw [List.length_cons, List.length_cons, LeE.len (a := a) (b := b) h.2]
  | [], _ :: _, h => by simp [LeE] at h
  | none :: _, [], h => by simp [LeE] at h
  | some _ :: _, [], h => by simp [LeE] at h
theorem LeE.get : ∀ {a b : Env} {i : Nat} {p : Bool × D}, LeE a b → a[i]? = some (some p) → b[i]? = some (some p)
  | [], _, i, p, _, e => by simp at e
  | none :: a, _ :: b, 0, p, _, e => by simp at e
  | some q :: a, _ :: b, 0, p, h, e => by
    obtain ⟨rfl, _⟩ := h
    exact e
  | none :: a, _ :: b, i + 1, p, h, e => by
    simp only [List.getElem?_cons_succ] at e ⊢
    exact LeE.get (a := a) (b := b) h e
  | some _ :: a, _ :: b, i + 1, p, h, e => by
    simp only [List.getElem?_cons_succ] at e ⊢
    exact LeE.get (a := a) (b := b) h.2 e
  | none :: _, [], _, _, h, _ => by simp [LeE] at h
  | some _ :: _, [], _, _, h, _ => by simp [LeE] at h
theorem LeE.set : ∀ {a b : Env} (i : Nat) (x : Option (Bool × D)), LeE a b → LeE (a.set i x) (b.set i x)
  | [], [], _, _, _ => trivial
  | none :: a, _ :: b, 0, x, h => by
    simp only [List.set_cons_zero]
    cases x with
    | none => exact h
    | some x => exact ⟨rfl, h⟩
  | some _ :: a, _ :: b, 0, x, h => by
    simp only [List.set_cons_zero]
    cases x with
    | none => exact h.2
    | some x => exact ⟨rfl, h.2⟩
  | none :: a, _ :: b, i + 1, x, h => by
    simp only [List.set_cons_succ]
    exact LeE.set (a := a) (b := b) i x h
  | some _ :: a, _ :: b, i + 1, x, h => by
    simp only [List.set_cons_succ]
    exact ⟨h.1, LeE.set (a := a) (b := b) i x h.2⟩
  | [], _ :: _, _, _, h => by simp [LeE] at h
  | none :: _, [], _, _, h => by simp [LeE] at h
  | some _ :: _, [], _, _, h => by simp [LeE] at h
theorem LeE.setr : ∀ {a b : Env} (i : Nat) (x : Option (Bool × D)), LeE a b → a[i]? = some none → LeE a (b.set i x)
  | [], [], _, _, _, e => by simp at e
  | none :: a, _ :: b, 0, x, h, e => h
  | some _ :: a, _ :: b, 0, x, h, e => by simp at e
  | none :: a, _ :: b, i + 1, x, h, e => by
    simp only [List.set_cons_succ]
    exact LeE.setr (a := a) (b := b) i x h (by simpa using e)
  | some _ :: a, _ :: b, i + 1, x, h, e => by
    simp only [List.set_cons_succ]
    exact ⟨h.1, LeE.setr (a := a) (b := b) i x h.2 (by simpa using e)⟩
  | [], _ :: _, _, _, h, _ => by simp [LeE] at h
  | none :: _, [], _, _, h, _ => by simp [LeE] at h
  | some _ :: _, [], _, _, h, _ => by simp [LeE] at h
theorem LeE.wipe {a b : Env} (h : LeE a b) : ∀ l : List Nat, LeE (wipeE a l) (wipeE b l)
  | [] => h
  | v :: l => by
    unfold wipeE
    exact LeE.set v none (LeE.wipe h l)
theorem LeE.evV {a b : Env} (h : LeE a b) {i : Nat} {d : D} (e : evV a i = some d) : evV b i = some d := by
  unfold Ip.evV at e ⊢
  split at e
  · rename_i q
    cases e
    rw [h.get q]
  · cases e
theorem LeE.evL {a b : Env} (h : LeE a b) {i : Nat} {d : D} (e : evL a i = some d) : evL b i = some d := by
  unfold Ip.evL at e ⊢
  split at e
  · rename_i q
    cases e
    rw [h.get q]
  · cases e
theorem LeE.ownL {a b : Env} (h : LeE a b) {i : Nat} {d : List D} (e : ownL a i = some d) : ownL b i = some d := by
  unfold Ip.ownL at e ⊢
  split at e
  · rename_i q
    cases e
    rw [h.get q]
  · cases e
theorem LeE.ownD {a b : Env} (h : LeE a b) {i : Nat} {d : List (D × D)} (e : ownD a i = some d) : ownD b i = some d := by
  unfold Ip.ownD at e ⊢
  split at e
  · rename_i q
    cases e
    rw [h.get q]
  · cases e
theorem LeE.frz : ∀ {a b : Env} (l : List Nat), LeE a b → LeE (Ip.frz l a) (Ip.frz l b)
  | a, b, [], h => h
  | a, b, i :: l, h => by
    unfold Ip.frz
    cases ha : a[i]? with
    | none =>
      have hb : b[i]? = none := by
        rw [List.getElem?_eq_none_iff] at ha ⊢
        rw [← h.len]
        exact ha
      rw [hb]
      exact LeE.frz l h
    | some x =>
      cases x with
      | none =>
        show LeE (Ip.frz l a) _
        split
        · exact LeE.frz l (h.setr i _ ha)
        · exact LeE.frz l h
      | some p =>
        rw [h.get ha]
        obtain ⟨w, d⟩ := p
        cases w with
        | true => exact LeE.frz l (h.set i _)
        | false => exact LeE.frz l h
mutual
theorem bindT_le : ∀ (t : Tg) (d : D) {a b a' : Env}, LeE a b → bindT t d a = some a' → ∃ b', bindT t d b = some b' ∧ LeE a' b'
  | .nm i, d, a, b, a', h, e => by
    simp only [bindT] at e ⊢
    cases e
    exact ⟨_, rfl, h.set i _⟩
  | .tp ts, d, a, b, a', h, e => by
    cases d with
    | tup ds =>
      simp only [bindT] at e ⊢
      exact bindTs_le ts ds h e
    | _ => simp [bindT] at e
theorem bindTs_le : ∀ (ts : List Tg) (ds : List D) {a b a' : Env}, LeE a b → bindTs ts ds a = some a' → ∃ b', bindTs ts ds b = some b' ∧ LeE a' b'
  | [], [], a, b, a', h, e => by
    simp only [bindTs] at e ⊢
    cases e
    exact ⟨_, rfl, h⟩
  | t :: ts, d :: ds, a, b, a', h, e => by
    simp only [bindTs] at e ⊢
    obtain ⟨c, e1, e2⟩ := Option.bind_eq_some_iff.mp e
    obtain ⟨c', e3, h'⟩ := bindT_le t d h e1
    rw [e3, Option.bind_some]
    exact bindTs_le ts ds h' e2
  | [], _ :: _, _, _, _, _, e => by simp [bindTs] at e
  | _ :: _, [], _, _, _, _, e => by simp [bindTs] at e
end
theorem bindAll_le : ∀ (ts : List Tg) (d : D) {a b a' : Env}, LeE a b → bindAll ts d a = some a' → ∃ b', bindAll ts d b = some b' ∧ LeE a' b'
  | [], d, a, b, a', h, e => by
    simp only [bindAll] at e ⊢
    cases e
    exact ⟨_, rfl, h⟩
  | t :: ts, d, a, b, a', h, e => by
    simp only [bindAll] at e ⊢
    obtain ⟨c, e1, e2⟩ := Option.bind_eq_some_iff.mp e
    obtain ⟨c', e3, h'⟩ := bindT_le t d h e1
    rw [e3, Option.bind_some]
    exact bindAll_le ts d h' e2
theorem setOs_le : ∀ (is : List (Nat × Bool)) (ds : List D) {a b a' : Env}, LeE a b → setOs is ds a = some a' → ∃ b', setOs is ds b = some b' ∧ LeE a' b'
  | [], [], a, b, a', h, e => by
    simp only [setOs] at e ⊢
    cases e
    exact ⟨_, rfl, h⟩
  | (i, w) :: is, d :: ds, a, b, a', h, e => by
    simp only [setOs] at e ⊢
    exact setOs_le is ds (h.set i _) e
  | [], _ :: _, _, _, _, _, e => by simp [setOs] at e
  | _ :: _, [], _, _, _, _, e => by simp [setOs] at e

/-! ### more known slots give the same -/
def Lo {α : Type} (f g : T → Option α) : Prop := ∀ s x, f s = some x → g s = some x
theorem Lo.rfl {α : Type} {f : T → Option α} : Lo f f := fun _ _ h => h
theorem Lo.bind {α β : Type} {f g : T → Option α} {h k : α → Option β} (h1 : Lo f g) (h2 : ∀ a x, h a = some x → k a = some x) : Lo (fun s => (f s).bind h) (fun s => (g s).bind k) := fun s x e => by
  obtain ⟨a, e1, e2⟩ := Option.bind_eq_some_iff.mp e
  show (g s).bind k = _
  rw [h1 s a e1, Option.bind_some]
  exact h2 a x e2
theorem Lo.map {α β : Type} {f g : T → Option α} {h : α → β} (h1 : Lo f g) : Lo (fun s => (f s).map h) (fun s => (g s).map h) := fun s x e => by
  obtain ⟨a, e1, e2⟩ := Option.map_eq_some_iff.mp e
  show (g s).map h = _
  rw [h1 s a e1, Option.map_some, e2]
structure L3 (f g : Ev) : Prop where
  v : Lo f.v g.v
  o : Lo f.o g.o
  t : Lo f.t g.t
theorem L3.mk' {f g : T → Option (D × T)} (h : Lo f g) : L3 (Ip.mk f) (Ip.mk g) := ⟨h, h, Lo.bind h fun _ _ e => e⟩
section
variable {G : Gl} {wn : Nat} {r r' : Env} {s : T} {a b c e : E} {es cs : List E}
theorem ev_bad : ev G .bad r = mk fun _ => none := by rw [ev]
theorem ev_glo {d : D} : ev G (.glo d) r = mk fun s => some (d, s) := by rw [ev]
theorem ev_me {m : Me} : ev G (.me m a es) r = mk fun s => ((ev G a r).o s).bind fun p => (evs G es r p.2).bind fun q => (meD m p.1 q.1).map fun d => (d, q.2) := by rw [ev]
theorem ev_dct : ev G (.dct es) r = mk fun s => (evs G es r s).bind fun p => (pairUp p.1).bind fun ps => (dPuts [] ps).map fun kvs => (.dic kvs, p.2) := by rw [ev]
/-- what a dict comprehension does at a turn -/
def dcT (G : Gl) (own : List Nat) (t : Tg) (cs : List E) (ek e : E) (r : Env) : D → T → Option (Option (D × D) × T) := fun x s => (bindT t x (wipeE r own)).bind fun r' => (evts G cs r' s).bind fun q => if q.1 then ((ev G ek r').v q.2).bind fun u => ((ev G e r').v u.2).map fun w => (some (u.1, w.1), w.2) else some (none, q.2)
theorem ev_dc {own : List Nat} {t : Tg} {k : Ik} {ek : E} : ev G (.dc own t k es cs ek e) r = mk fun s => (evos G es r s).bind fun p => (itD k p.1).bind fun xs => (dcF (dcT G own t cs ek e r) xs [] p.2).map fun q => (.dic q.1, q.2) := by rw [ev] <;> rfl
theorem ex_dput {i : Nat} {k v : E} : ex G wn (.dput i k v) r s = ((ev G v r).v s).bind fun p => ((ev G k r).v p.2).bind fun q => (ownD r i).bind fun kvs => if keysOk kvs q.1 && decide (kvs.length < szL) then some (.nx (r.set i (some (true, .dic (dPut kvs q.1 p.1)))) q.2) else none := by rw [ex]
theorem ex_bad : ex G wn .bad r s = none := by rw [ex]
theorem ex_pop {t : Option Tg} {i : Nat} {e : Option E} : ex G wn (.pop t i e) r s = (evo? G e r s).bind fun p => (ownL r i).bind fun xs => (ixP xs.length (p.1.getD (-1))).bind fun j => (xs[j]?).bind fun d =>
      let r' := r.set i (some (true, .lst (xs.eraseIdx j)))
      match t with
      | none => some (.nx r' p.2)
      | some t => (bindT t d r').map fun r'' => .nx r'' p.2 := by rw [ex] <;> rfl
theorem ex_sti {i : Nat} {k v : E} : ex G wn (.sti i k v) r s = ((ev G v r).v s).bind fun p => (intO ((ev G k r).o p.2)).bind fun q => (ownL r i).bind fun xs => (ixP xs.length q.1).map fun j => .nx (r.set i (some (true, .lst (xs.set j p.1)))) q.2 := by rw [ex]
/-- a while loop's turn -/
def whT (G : Gl) (wn : Nat) (c : E) (b : List S) : Env → T → Option (Bool × R) := fun r s => ((ev G c r).t s).bind fun p => if p.1 then (exs G wn b r p.2).map fun x => (true, x) else some (false, .nx r p.2)
theorem ex_whl {b : List S} : ex G wn (.whl c b) r s = whF (whT G wn c b) wn r s := by rw [ex] <;> rfl
theorem Lo.int {f g : T → Option (D × T)} (h : Lo f g) : Lo (fun s => intO (f s)) (fun s => intO (g s)) := fun s x e => by
  dsimp only at e
  cases hf : f s with
  | none => rw [hf] at e; cases e
  | some p =>
    rw [hf] at e
    show intO (g s) = _
    rw [h s p hf]
    exact e
theorem lcF_le {f g : D → T → Option (Option D × T)} (h : ∀ d, Lo (f d) (g d)) : ∀ xs : List D, Lo (lcF f xs) (lcF g xs)
  | [] => Lo.rfl
  | x :: xs => fun s y e => by
    rw [lcF] at e ⊢
    obtain ⟨p, e1, e2⟩ := Option.bind_eq_some_iff.mp e
    obtain ⟨q, e3, e4⟩ := Option.map_eq_some_iff.mp e2
    rw [h x s p e1, Option.bind_some, lcF_le h xs p.2 q e3, Option.map_some, e4]
theorem dcF_le {f g : D → T → Option (Option (D × D) × T)} (h : ∀ d, Lo (f d) (g d)) : ∀ (xs : List D) (acc : List (D × D)), Lo (dcF f xs acc) (dcF g xs acc)
  | [], acc => Lo.rfl
  | x :: xs, acc => fun s y e => by
    rw [dcF] at e ⊢
    obtain ⟨p, e1, e2⟩ := Option.bind_eq_some_iff.mp e
    rw [h x s p e1, Option.bind_some]
    obtain ⟨o, s1⟩ := p
    cases o with
    | none => exact dcF_le h xs acc s1 y e2
    | some kv =>
      dsimp only at e2 ⊢
      split at e2
      · rename_i hc
        rw [if_pos hc]
        exact dcF_le h xs _ s1 y e2
      · cases e2
theorem dcT_le {own : List Nat} {t : Tg} {ek : E} (hr : LeE r r') (h1 : ∀ {r r'}, LeE r r' → Lo (evts G cs r) (evts G cs r')) (h0 : ∀ {r r'}, LeE r r' → L3 (ev G ek r) (ev G ek r')) (h2 : ∀ {r r'}, LeE r r' → L3 (ev G e r) (ev G e r')) (d : D) : Lo (dcT G own t cs ek e r d) (dcT G own t cs ek e r' d) := fun s x he => by
  unfold dcT at he ⊢
  obtain ⟨q, e1, e2⟩ := Option.bind_eq_some_iff.mp he
  obtain ⟨q', e3, hq⟩ := bindT_le t d (hr.wipe own) e1
  rw [e3, Option.bind_some]
  obtain ⟨u, e4, e5⟩ := Option.bind_eq_some_iff.mp e2
  rw [h1 hq _ _ e4, Option.bind_some]
  split at e5
  · rename_i hu
    rw [if_pos hu]
    exact Lo.bind (h0 hq).v (fun u x e => Lo.map (h2 hq).v _ _ e) _ _ e5
  · rename_i hu
    rw [if_neg hu]
    exact e5
theorem lcT_le {own : List Nat} {t : Tg} (hr : LeE r r') (h1 : ∀ {r r'}, LeE r r' → Lo (evts G cs r) (evts G cs r')) (h2 : ∀ {r r'}, LeE r r' → L3 (ev G e r) (ev G e r')) (d : D) : Lo (lcT G own t cs e r d) (lcT G own t cs e r' d) := fun s x he => by
  unfold lcT at he ⊢
  obtain ⟨q, e1, e2⟩ := Option.bind_eq_some_iff.mp he
  obtain ⟨q', e3, hq⟩ := bindT_le t d (hr.wipe own) e1
  rw [e3, Option.bind_some]
  obtain ⟨u, e4, e5⟩ := Option.bind_eq_some_iff.mp e2
  rw [h1 hq _ _ e4, Option.bind_some]
  split at e5
  · rename_i hu
    rw [if_pos hu]
    exact Lo.map (h2 hq).v _ _ e5
  · rename_i hu
    rw [if_neg hu]
    exact e5
end
section
variable {G : Gl} {wn : Nat}
mutual
theorem ev_le : ∀ (e : E) {r r' : Env}, LeE r r' → L3 (ev G e r) (ev G e r')
  | .bad, r, r', h => by rw [ev_bad, ev_bad]; exact .mk' Lo.rfl
  | .loc i, r, r', h => by
    rw [ev_loc, ev_loc]
    refine ⟨fun s x e => ?_, fun s x e => ?_, fun s x e => ?_⟩
    · obtain ⟨d, e1, e2⟩ := Option.map_eq_some_iff.mp e
      show (evV r' i).map _ = _
      rw [h.evV e1, Option.map_some, e2]
    · obtain ⟨d, e1, e2⟩ := Option.map_eq_some_iff.mp e
      show (evL r' i).map _ = _
      rw [h.evL e1, Option.map_some, e2]
    · obtain ⟨d, e1, e2⟩ := Option.bind_eq_some_iff.mp e
      show (evL r' i).bind _ = _
      rw [h.evL e1, Option.bind_some, e2]
  | .con d, r, r', h => by rw [ev_con, ev_con]; exact .mk' Lo.rfl
  | .glo d, r, r', h => by rw [ev_glo, ev_glo]; exact .mk' Lo.rfl
  | .bin o a b, r, r', h => by
    rw [ev_bin, ev_bin]
    exact .mk' (Lo.bind (ev_le a h).o fun p x e => Lo.bind (ev_le b h).o (fun _ _ e => e) p.2 x e)
  | .neg a, r, r', h => by
    rw [ev_neg, ev_neg]
    exact .mk' (Lo.map (Lo.int (ev_le a h).o))
  | .not_ a, r, r', h => by
    rw [ev_not, ev_not]
    exact ⟨Lo.bind (ev_le a h).o fun _ _ e => e, Lo.bind (ev_le a h).o fun _ _ e => e, Lo.map (ev_le a h).t⟩
  | .and_ a b, r, r', h => by
    rw [ev_and, ev_and]
    have v : Lo (fun s => ((ev G a r).v s).bind fun p => (truD p.1).bind fun k => if k then (ev G b r).v p.2 else some p) (fun s => ((ev G a r').v s).bind fun p => (truD p.1).bind fun k => if k then (ev G b r').v p.2 else some p) := Lo.bind (ev_le a h).v fun p x e => by
      obtain ⟨k, e1, e2⟩ := Option.bind_eq_some_iff.mp e
      rw [e1, Option.bind_some]
      cases k with
      | true => exact (ev_le b h).v _ _ e2
      | false => exact e2
    refine ⟨v, v, Lo.bind (ev_le a h).t fun p x e => ?_⟩
    split at e
    · rename_i hp
      rw [if_pos hp]
      exact (ev_le b h).t _ _ e
    · rename_i hp
      rw [if_neg hp]
      exact e
  | .or_ a b, r, r', h => by
    rw [ev_or, ev_or]
    have v : Lo (fun s => ((ev G a r).v s).bind fun p => (truD p.1).bind fun k => if k then some p else (ev G b r).v p.2) (fun s => ((ev G a r').v s).bind fun p => (truD p.1).bind fun k => if k then some p else (ev G b r').v p.2) := Lo.bind (ev_le a h).v fun p x e => by
      obtain ⟨k, e1, e2⟩ := Option.bind_eq_some_iff.mp e
      rw [e1, Option.bind_some]
      cases k with
      | false => exact (ev_le b h).v _ _ e2
      | true => exact e2
    refine ⟨v, v, Lo.bind (ev_le a h).t fun p x e => ?_⟩
    split at e
    · rename_i hp
      rw [if_pos hp]
      exact e
    · rename_i hp
      rw [if_neg hp]
      exact (ev_le b h).t _ _ e
  | .ite c a b, r, r', h => by
    rw [ev_ite, ev_ite]
    refine ⟨Lo.bind (ev_le c h).t fun p x e => ?_, Lo.bind (ev_le c h).t fun p x e => ?_, Lo.bind (ev_le c h).t fun p x e => ?_⟩
    all_goals
      split at e
      · rename_i hp
        rw [if_pos hp]
        first | exact (ev_le a h).v _ _ e | exact (ev_le a h).t _ _ e
      · rename_i hp
        rw [if_neg hp]
        first | exact (ev_le b h).v _ _ e | exact (ev_le b h).t _ _ e
  | .cmp o a b, r, r', h => by
    rw [ev_cmp, ev_cmp]
    exact .mk' (Lo.bind (ev_le a h).o fun p x e => Lo.bind (ev_le b h).o (fun _ _ e => e) p.2 x e)
  | .chain o o' a b c, r, r', h => by
    rw [ev_chain, ev_chain]
    refine .mk' (Lo.bind (ev_le a h).o fun p x e => Lo.bind (ev_le b h).o (fun q x e => ?_) p.2 x e)
    obtain ⟨k, e1, e2⟩ := Option.bind_eq_some_iff.mp e
    rw [e1, Option.bind_some]
    cases k with
    | true => exact Lo.bind (ev_le c h).o (fun _ _ e => e) q.2 x e2
    | false => exact e2
  | .tup es, r, r', h => by
    rw [ev_tup, ev_tup]
    exact .mk' (Lo.map (evs_le es h))
  | .lst es, r, r', h => by
    rw [ev_lst, ev_lst]
    exact .mk' (Lo.map (evs_le es h))
  | .call f es, r, r', h => by
    rw [ev_call, ev_call]
    exact .mk' (Lo.bind (evs_le es h) fun _ _ e => e)
  | .bi o es, r, r', h => by
    rw [ev_bi, ev_bi]
    exact .mk' (Lo.bind (evos_le es h) fun _ _ e => e)
  | .isi t a, r, r', h => by
    rw [ev_isi, ev_isi]
    exact .mk' (Lo.bind (ev_le a h).o fun _ _ e => e)
  | .me m a es, r, r', h => by
    rw [ev_me, ev_me]
    exact .mk' (Lo.bind (ev_le a h).o fun p x e => Lo.bind (evs_le es h) (fun _ _ e => e) p.2 x e)
  | .sub a i, r, r', h => by
    rw [ev_sub, ev_sub]
    exact .mk' (Lo.bind (ev_le a h).o fun p x e => Lo.bind (ev_le i h).o (fun _ _ e => e) p.2 x e)
  | .sli a lo hi, r, r', h => by
    rw [ev_sli, ev_sli]
    exact .mk' (Lo.bind (ev_le a h).o fun p x e => Lo.bind (evo_le lo h) (fun q x e => Lo.bind (evo_le hi h) (fun _ _ e => e) q.2 x e) p.2 x e)
  | .rev a, r, r', h => by
    rw [ev_rev, ev_rev]
    exact .mk' (Lo.bind (ev_le a h).o fun _ _ e => e)
  | .lc own t k es cs e, r, r', h => by
    rw [ev_lc, ev_lc]
    refine .mk' (Lo.bind (evos_le es h) fun p x e => ?_)
    obtain ⟨xs, e1, e2⟩ := Option.bind_eq_some_iff.mp e
    rw [e1, Option.bind_some]
    exact Lo.map (lcF_le (lcT_le h (fun h => evts_le cs h) fun h => ev_le _ h) xs) _ _ e2
  | .dct es, r, r', h => by
    rw [ev_dct, ev_dct]
    exact .mk' (Lo.bind (evs_le es h) fun _ _ e => e)
  | .dc own t k es cs ek e, r, r', h => by
    rw [ev_dc, ev_dc]
    refine .mk' (Lo.bind (evos_le es h) fun p x e => ?_)
    obtain ⟨xs, e1, e2⟩ := Option.bind_eq_some_iff.mp e
    rw [e1, Option.bind_some]
    exact Lo.map (dcF_le (dcT_le h (fun h => evts_le cs h) (fun h => ev_le _ h) fun h => ev_le _ h) xs []) _ _ e2
theorem evs_le : ∀ (es : List E) {r r' : Env}, LeE r r' → Lo (evs G es r) (evs G es r')
  | [], r, r', h => fun s x e => by rw [evs_nil] at e ⊢; exact e
  | e :: es, r, r', h => fun s x he => by
    rw [evs_cons] at he ⊢
    exact Lo.bind (ev_le e h).v (fun p x e => Lo.map (evs_le es h) _ _ e) s x he
theorem evos_le : ∀ (es : List E) {r r' : Env}, LeE r r' → Lo (evos G es r) (evos G es r')
  | [], r, r', h => fun s x e => by rw [evos_nil] at e ⊢; exact e
  | e :: es, r, r', h => fun s x he => by
    rw [evos_cons] at he ⊢
    exact Lo.bind (ev_le e h).o (fun p x e => Lo.map (evos_le es h) _ _ e) s x he
theorem evts_le : ∀ (es : List E) {r r' : Env}, LeE r r' → Lo (evts G es r) (evts G es r')
  | [], r, r', h => fun s x e => by rw [evts_nil] at e ⊢; exact e
  | e :: es, r, r', h => fun s x he => by
    rw [evts_cons] at he ⊢
    refine Lo.bind (ev_le e h).t (fun p x e => ?_) s x he
    split at e
    · rename_i hp
      rw [if_pos hp]
      exact evts_le es h _ _ e
    · rename_i hp
      rw [if_neg hp]
      exact e
theorem evo_le : ∀ (e : Option E) {r r' : Env}, LeE r r' → Lo (evo? G e r) (evo? G e r')
  | none, r, r', h => fun s x e => by rw [evo_none] at e ⊢; exact e
  | some e, r, r', h => fun s x he => by
    rw [evo_some] at he ⊢
    exact Lo.map (Lo.int (ev_le e h).o) s x he
end
def LeR : R → R → Prop
  | .nx r s, .nx r' s' => LeE r r' ∧ s = s'
  | .bk r s, .bk r' s' => LeE r r' ∧ s = s'
  | .ct r s, .ct r' s' => LeE r r' ∧ s = s'
  | .rt d s, .rt d' s' => d = d' ∧ s = s'
  | _, _ => False
def LoR (f g : Option R) : Prop := ∀ o, f = some o → ∃ o', g = some o' ∧ LeR o o'
theorem LoR.nx {r r' : Env} {s : T} (h : LeE r r') : LoR (some (.nx r s)) (some (.nx r' s)) := fun o e => by
  cases e
  exact ⟨_, rfl, h, rfl⟩
theorem LoR.none {g : Option R} : LoR none g := fun o e => by cases e
theorem LoR.bind {α : Type} {f g : Option α} {h k : α → Option R} (h1 : ∀ x, f = some x → g = some x) (h2 : ∀ a, LoR (h a) (k a)) : LoR (f.bind h) (g.bind k) := fun o e => by
  obtain ⟨a, e1, e2⟩ := Option.bind_eq_some_iff.mp e
  rw [h1 a e1, Option.bind_some]
  exact h2 a o e2
theorem LoR.seq {f g : Option R} {h k : Env → T → Option R} (h1 : LoR f g) (h2 : ∀ {r r'} s, LeE r r' → LoR (h r s) (k r' s)) : LoR (seqR f h) (seqR g k) := fun o e => by
  obtain ⟨x, e1, e2⟩ := Option.bind_eq_some_iff.mp e
  obtain ⟨x', e3, q⟩ := h1 x e1
  unfold seqR
  rw [e3, Option.bind_some]
  cases x with
  | nx r s =>
    cases x' with
    | nx r' s' =>
      obtain ⟨q, rfl⟩ := q
      exact h2 s q o e2
    | _ => exact q.elim
  | _ =>
    cases x' with
    | nx r' s' => exact q.elim
    | _ => cases e2; exact ⟨_, rfl, q⟩
theorem forF_le {f g : D → Env → T → Option R} (h : ∀ d {r r'} s, LeE r r' → LoR (f d r s) (g d r' s)) : ∀ (xs : List D) {r r' : Env} (s : T), LeE r r' → LoR (forF f xs r s) (forF g xs r' s)
  | [], r, r', s, hr => LoR.nx hr
  | x :: xs, r, r', s, hr => fun o e => by
    rw [forF] at e ⊢
    obtain ⟨y, e1, e2⟩ := Option.bind_eq_some_iff.mp e
    obtain ⟨y', e3, q⟩ := h x s hr y e1
    rw [e3, Option.bind_some]
    cases y with
    | nx r1 s1 =>
      cases y' with
      | nx r2 s2 =>
        obtain ⟨q, rfl⟩ := q
        exact forF_le h xs s1 q o e2
      | _ => exact q.elim
    | ct r1 s1 =>
      cases y' with
      | ct r2 s2 =>
        obtain ⟨q, rfl⟩ := q
        exact forF_le h xs s1 q o e2
      | _ => exact q.elim
    | bk r1 s1 =>
      cases y' with
      | bk r2 s2 => cases e2; exact ⟨_, rfl, q⟩
      | _ => exact q.elim
    | rt d1 s1 =>
      cases y' with
      | rt r2 s2 => cases e2; exact ⟨_, rfl, q⟩
      | _ => exact q.elim
def LoB (f g : Option (Bool × R)) : Prop := ∀ o, f = some o → ∃ o', g = some o' ∧ o.1 = o'.1 ∧ LeR o.2 o'.2
theorem whF_le {f g : Env → T → Option (Bool × R)} (h : ∀ {r r'} s, LeE r r' → LoB (f r s) (g r' s)) : ∀ (n : Nat) {r r' : Env} (s : T), LeE r r' → LoR (whF f n r s) (whF g n r' s)
  | 0, r, r', s, hr => LoR.none
  | n + 1, r, r', s, hr => fun o e => by
    rw [whF] at e ⊢
    obtain ⟨y, e1, e2⟩ := Option.bind_eq_some_iff.mp e
    obtain ⟨y', e3, q1, q⟩ := h s hr y e1
    rw [e3, Option.bind_some]
    obtain ⟨k, y⟩ := y
    obtain ⟨k', y'⟩ := y'
    dsimp only at q1 q e2 ⊢
    subst q1
    cases k with
    | false =>
      rw [if_neg (by decide)] at e2 ⊢
      cases e2
      exact ⟨_, rfl, q⟩
    | true =>
      rw [if_pos rfl] at e2 ⊢
      cases y with
      | nx r1 s1 =>
        cases y' with
        | nx r2 s2 =>
          obtain ⟨q, rfl⟩ := q
          exact whF_le h n s1 q o e2
        | _ => exact q.elim
      | ct r1 s1 =>
        cases y' with
        | ct r2 s2 =>
          obtain ⟨q, rfl⟩ := q
          exact whF_le h n s1 q o e2
        | _ => exact q.elim
      | bk r1 s1 =>
        cases y' with
        | bk r2 s2 => cases e2; exact ⟨_, rfl, q⟩
        | _ => exact q.elim
      | rt d1 s1 =>
        cases y' with
        | rt r2 s2 => cases e2; exact ⟨_, rfl, q⟩
        | _ => exact q.elim
mutual
theorem ex_le : ∀ (x : S) {r r' : Env} (s : T), LeE r r' → LoR (ex G wn x r s) (ex G wn x r' s)
  | .bad, r, r', s, h => by rw [ex_bad]; exact LoR.none
  | .fz is x, r, r', s, h => by
    rw [ex_fz, ex_fz]
    exact ex_le x s (h.frz is)
  | .set i w e, r, r', s, h => by
    rw [ex_set, ex_set]
    intro o q
    obtain ⟨p, e1, e2⟩ := Option.map_eq_some_iff.mp q
    rw [(ev_le e h).v s p e1, Option.map_some]
    cases e2
    exact ⟨_, rfl, h.set i _, rfl⟩
  | .par is es, r, r', s, h => by
    rw [ex_par, ex_par]
    refine LoR.bind (evs_le es h s) fun p o q => ?_
    obtain ⟨r1, e1, e2⟩ := Option.map_eq_some_iff.mp q
    obtain ⟨r2, e3, h'⟩ := setOs_le is p.1 h e1
    cases e2
    rw [e3]
    exact ⟨_, rfl, h', rfl⟩
  | .tgt ts e, r, r', s, h => by
    rw [ex_tgt, ex_tgt]
    refine LoR.bind ((ev_le e h).v s) fun p o q => ?_
    obtain ⟨r1, e1, e2⟩ := Option.map_eq_some_iff.mp q
    obtain ⟨r2, e3, h'⟩ := bindAll_le ts p.1 h e1
    cases e2
    rw [e3]
    exact ⟨_, rfl, h', rfl⟩
  | .aug i o e, r, r', s, h => by
    rw [ex_aug, ex_aug]
    refine LoR.bind (fun _ q => h.evV q) fun x => LoR.bind ((ev_le e h).o s) fun p => LoR.bind (fun _ q => q) fun d => ?_
    cases d with
    | int k => exact LoR.nx (h.set i _)
    | _ => exact LoR.none
  | .app i e, r, r', s, h => by
    rw [ex_app, ex_app]
    refine LoR.bind ((ev_le e h).v s) fun p => LoR.bind (fun _ q => h.ownL q) fun xs => ?_
    split
    · exact LoR.nx (h.set i _)
    · exact LoR.none
  | .ext i e, r, r', s, h => by
    rw [ex_ext, ex_ext]
    refine LoR.bind ((ev_le e h).v s) fun p => LoR.bind (fun _ q => h.ownL q) fun xs => ?_
    obtain ⟨d, s1⟩ := p
    cases d with
    | lst ys =>
      dsimp only
      split
      · exact LoR.nx (h.set i _)
      · exact LoR.none
    | tup ys =>
      dsimp only
      split
      · exact LoR.nx (h.set i _)
      · exact LoR.none
    | _ => exact LoR.none
  | .pop t i e, r, r', s, h => by
    rw [ex_pop, ex_pop]
    refine LoR.bind (evo_le e h s) fun p => LoR.bind (fun _ q => h.ownL q) fun xs => LoR.bind (fun _ q => q) fun j => LoR.bind (fun _ q => q) fun d => ?_
    dsimp only
    cases t with
    | none => exact LoR.nx (h.set i _)
    | some t =>
      intro o q
      obtain ⟨r1, e1, e2⟩ := Option.map_eq_some_iff.mp q
      obtain ⟨r2, e3, h'⟩ := bindT_le t d (h.set i _) e1
      cases e2
      dsimp only
      rw [e3]
      exact ⟨_, rfl, h', rfl⟩
  | .sti i k v, r, r', s, h => by
    rw [ex_sti, ex_sti]
    refine LoR.bind ((ev_le v h).v s) fun p => LoR.bind (Lo.int (ev_le k h).o p.2) fun q => LoR.bind (fun _ q => h.ownL q) fun xs o z => ?_
    obtain ⟨j, e1, e2⟩ := Option.map_eq_some_iff.mp z
    cases e2
    rw [e1]
    exact ⟨_, rfl, h.set i _, rfl⟩
  | .dput i k v, r, r', s, h => by
    rw [ex_dput, ex_dput]
    refine LoR.bind ((ev_le v h).v s) fun p => LoR.bind ((ev_le k h).v p.2) fun q => LoR.bind (fun _ q => h.ownD q) fun kvs => ?_
    split
    · exact LoR.nx (h.set i _)
    · exact LoR.none
  | .exp e, r, r', s, h => by
    rw [ex_exp, ex_exp]
    intro o q
    obtain ⟨p, e1, e2⟩ := Option.map_eq_some_iff.mp q
    rw [(ev_le e h).v s p e1, Option.map_some]
    cases e2
    exact ⟨_, rfl, h, rfl⟩
  | .ret e, r, r', s, h => by
    rw [ex_ret, ex_ret]
    intro o q
    obtain ⟨p, e1, e2⟩ := Option.map_eq_some_iff.mp q
    rw [(ev_le e h).v s p e1, Option.map_some]
    cases e2
    exact ⟨_, rfl, rfl, rfl⟩
  | .ife c as bs, r, r', s, h => by
    rw [ex_ife, ex_ife]
    refine LoR.bind ((ev_le c h).t s) fun p => ?_
    split
    · exact exs_le as p.2 h
    · exact exs_le bs p.2 h
  | .for_ t k es bd, r, r', s, h => by
    rw [ex_for, ex_for]
    refine LoR.bind (evs_le es h s) fun p => LoR.bind (fun _ q => q) fun xs => forF_le (fun d r r' s h => ?_) xs p.2 h
    unfold foT
    intro o q
    obtain ⟨r1, e1, e2⟩ := Option.bind_eq_some_iff.mp q
    obtain ⟨r2, e3, h'⟩ := bindT_le t d h e1
    rw [e3, Option.bind_some]
    exact exs_le bd s h' o e2
  | .whl c bd, r, r', s, h => by
    rw [ex_whl, ex_whl]
    refine whF_le (fun {r r'} s h => ?_) wn s h
    unfold whT
    intro o q
    obtain ⟨p, e1, e2⟩ := Option.bind_eq_some_iff.mp q
    rw [(ev_le c h).t s p e1, Option.bind_some]
    split at e2
    · rename_i hp
      rw [if_pos hp]
      obtain ⟨x, e3, e4⟩ := Option.map_eq_some_iff.mp e2
      obtain ⟨x', e5, q'⟩ := exs_le bd p.2 h x e3
      cases e4
      rw [e5]
      exact ⟨_, rfl, rfl, q'⟩
    · rename_i hp
      rw [if_neg hp]
      cases e2
      exact ⟨_, rfl, rfl, h, rfl⟩
  | .brk, r, r', s, h => by
    rw [ex_brk, ex_brk]
    intro o q
    cases q
    exact ⟨_, rfl, h, rfl⟩
  | .cnt, r, r', s, h => by
    rw [ex_cnt, ex_cnt]
    intro o q
    cases q
    exact ⟨_, rfl, h, rfl⟩
  | .pas, r, r', s, h => by
    rw [ex_pas, ex_pas]
    exact LoR.nx h
theorem exs_le : ∀ (xs : List S) {r r' : Env} (s : T), LeE r r' → LoR (exs G wn xs r s) (exs G wn xs r' s)
  | [], r, r', s, h => by
    rw [exs_nil, exs_nil]
    exact LoR.nx h
  | x :: xs, r, r', s, h => by
    rw [exs_cons, exs_cons]
    exact LoR.seq (ex_le x s h) fun s h => exs_le xs s h
end
end
end Ip

/-! PuW: what must hold so that a text of the language does what is wanted (conditions, computed), and that it suffices. -/
namespace Ip
def opt {α : Type} : Option α → (α → Prop) → Prop
  | some a, K => K a
  | none, _ => False
theorem opt_some {α : Type} {a : α} {K : α → Prop} : opt (some a) K = K a := id rfl
theorem opt_none {α : Type} {K : α → Prop} : opt none K = False := id rfl
theorem opt_of {α : Type} {o : Option α} {a : α} {K : α → Prop} (h : o = some a) (k : K a) : opt o K := by rw [h]; exact k
theorem opt_map {α β : Type} {o : Option α} {f : α → β} {K : β → Prop} : opt (o.map f) K = opt o fun a => K (f a) := by cases o <;> rfl
theorem opt_bind {α β : Type} {o : Option α} {f : α → Option β} {K : β → Prop} : opt (o.bind f) K = opt o fun a => opt (f a) K := by cases o <;> rfl
theorem opt_ite {α : Type} {c : Prop} [Decidable c] {a b : Option α} {K : α → Prop} : opt (if c then a else b) K = if c then opt a K else opt b K := by split <;> rfl
theorem opt_mono {α : Type} {o : Option α} {K K' : α → Prop} (h : ∀ a, K a → K' a) : opt o K → opt o K' := by
  cases o with
  | none => exact id
  | some a => exact h a
def asI : D → Option Int
  | .int i => some i
  | _ => none
theorem asI_int {i : Int} : asI (.int i) = some i := id rfl
/-- a call's promise -/
def Cl (G : Gl) (f : Nat) (ds : List D) (K : D → Prop) : Prop := ∀ s, TOk s → ∃ d s', G.cl f ds s = some (d, s') ∧ TOk s' ∧ K d
theorem Cl.mono {G : Gl} {f : Nat} {ds : List D} {K K' : D → Prop} (h : ∀ d, K d → K' d) (c : Cl G f ds K) : Cl G f ds K' := fun s t => by
  obtain ⟨d, s', e, t', k⟩ := c s t
  exact ⟨d, s', e, t', h d k⟩
structure Wp where
  v : (D → Prop) → Prop
  o : (D → Prop) → Prop
  t : (Bool → Prop) → Prop
def mkW (f : (D → Prop) → Prop) : Wp := ⟨f, f, fun K => f fun d => opt (truD d) K⟩
theorem mkW_v {f : (D → Prop) → Prop} : (mkW f).v = f := id rfl
theorem mkW_o {f : (D → Prop) → Prop} : (mkW f).o = f := id rfl
theorem mkW_t {f : (D → Prop) → Prop} {K : Bool → Prop} : (mkW f).t K = f fun d => opt (truD d) K := id rfl
def cnsO : Option D → List D → List D
  | some d, ds => d :: ds
  | none, ds => ds
theorem cnsO_some {d : D} {ds : List D} : cnsO (some d) ds = d :: ds := id rfl
theorem cnsO_none {ds : List D} : cnsO none ds = ds := id rfl
/-- the turns of a comprehension -/
def wlc (f : D → (Option D → Prop) → Prop) : List D → (List D → Prop) → Prop
  | [], K => K []
  | x :: xs, K => f x fun o => wlc f xs fun ds => K (cnsO o ds)
/-- the turns of a dict comprehension -/
def wdc (f : D → (Option (D × D) → Prop) → Prop) : List D → List (D × D) → (List (D × D) → Prop) → Prop
  | [], acc, K => K acc
  | x :: xs, acc, K => f x fun o => match o with
    | some kv => (isKey kv.1 = true ∧ acc.length < szL) ∧ wdc f xs (dPut acc kv.1 kv.2) K
    | none => wdc f xs acc K
mutual
def wp0 (G : Gl) : E → Env → Wp
  | .bad, _ => mkW fun _ => False
  | .loc i, r => ⟨fun K => opt (evV r i) K, fun K => opt (evL r i) K, fun K => opt (evL r i) fun d => opt (truD d) K⟩
  | .con d, _ => mkW fun K => K d
  | .glo d, _ => mkW fun K => K d
  | .bin o a b, r => mkW fun K => (wp0 G a r).o fun x => (wp0 G b r).o fun y => opt (binD o x y) K
  | .neg a, r => mkW fun K => (wp0 G a r).o fun x => opt (asI x) fun i => K (.int (-i))
  | .not_ a, r => ⟨fun K => (wp0 G a r).o fun x => opt (truD x) fun b => K (.bl (!b)), fun K => (wp0 G a r).o fun x => opt (truD x) fun b => K (.bl (!b)), fun K => (wp0 G a r).t fun b => K (!b)⟩
  | .and_ a b, r => ⟨fun K => (wp0 G a r).v fun x => opt (truD x) fun k => if k = true then (wp0 G b r).v K else K x, fun K => (wp0 G a r).v fun x => opt (truD x) fun k => if k = true then (wp0 G b r).v K else K x,
      fun K => (wp0 G a r).t fun k => if k = true then (wp0 G b r).t K else K false⟩
  | .or_ a b, r => ⟨fun K => (wp0 G a r).v fun x => opt (truD x) fun k => if k = true then K x else (wp0 G b r).v K, fun K => (wp0 G a r).v fun x => opt (truD x) fun k => if k = true then K x else (wp0 G b r).v K,
      fun K => (wp0 G a r).t fun k => if k = true then K true else (wp0 G b r).t K⟩
  | .ite c a b, r => ⟨fun K => (wp0 G c r).t fun k => if k = true then (wp0 G a r).v K else (wp0 G b r).v K, fun K => (wp0 G c r).t fun k => if k = true then (wp0 G a r).v K else (wp0 G b r).v K,
      fun K => (wp0 G c r).t fun k => if k = true then (wp0 G a r).t K else (wp0 G b r).t K⟩
  | .cmp o a b, r => mkW fun K => (wp0 G a r).o fun x => (wp0 G b r).o fun y => opt (cmpD o x y) fun k => K (.bl k)
  | .chain o o' a b c, r => mkW fun K => (wp0 G a r).o fun x => (wp0 G b r).o fun y => opt (cmpD o x y) fun k => if k = true then (wp0 G c r).o fun z => opt (cmpD o' y z) fun k' => K (.bl k') else K (.bl false)
  | .tup es, r => mkW fun K => wps0 G es r fun ds => K (.tup ds)
  | .lst es, r => mkW fun K => wps0 G es r fun ds => K (.lst ds)
  | .call f es, r => mkW fun K => wps0 G es r fun ds => Cl G f ds K
  | .bi b es, r => mkW fun K => wpos0 G es r fun ds => opt (biD b ds) K
  | .isi t a, r => mkW fun K => (wp0 G a r).o fun x => opt (isiD t x) fun b => K (.bl b)
  | .me m a es, r => mkW fun K => (wp0 G a r).o fun x => wps0 G es r fun ds => opt (meD m x ds) K
  | .sub a i, r => mkW fun K => (wp0 G a r).o fun x => (wp0 G i r).o fun y => opt (subD x y) K
  | .sli a lo hi, r => mkW fun K => (wp0 G a r).o fun x => wpo0 G lo r fun l => wpo0 G hi r fun h => opt (cutD x l h) K
  | .rev a, r => mkW fun K => (wp0 G a r).o fun x => if isStr x = true then False else opt (revD x) K
  | .lc own t k es cs e, r => mkW fun K => wpos0 G es r fun ds => opt (itD k ds) fun xs =>
      wlc (fun x K => opt (bindT t x (wipeE r own)) fun r' => wpts0 G cs r' fun b => if b = true then (wp0 G e r').v fun d => K (some d) else K none) xs fun ds => K (.lst ds)
  | .dct es, r => mkW fun K => wps0 G es r fun ds => opt (pairUp ds) fun ps => opt (dPuts [] ps) fun kvs => K (.dic kvs)
  | .dc own t k es cs ek e, r => mkW fun K => wpos0 G es r fun ds => opt (itD k ds) fun xs =>
      wdc (fun x K => opt (bindT t x (wipeE r own)) fun r' => wpts0 G cs r' fun b => if b = true then (wp0 G ek r').v fun k => (wp0 G e r').v fun d => K (some (k, d)) else K none) xs [] fun kvs => K (.dic kvs)
def wps0 (G : Gl) : List E → Env → (List D → Prop) → Prop
  | [], _, K => K []
  | e :: es, r, K => (wp0 G e r).v fun d => wps0 G es r fun ds => K (d :: ds)
def wpos0 (G : Gl) : List E → Env → (List D → Prop) → Prop
  | [], _, K => K []
  | e :: es, r, K => (wp0 G e r).o fun d => wpos0 G es r fun ds => K (d :: ds)
def wpts0 (G : Gl) : List E → Env → (Bool → Prop) → Prop
  | [], _, K => K true
  | e :: es, r, K => (wp0 G e r).t fun b => if b = true then wpts0 G es r K else K false
def wpo0 (G : Gl) : Option E → Env → (Option Int → Prop) → Prop
  | none, _, K => K none
  | some e, r, K => (wp0 G e r).o fun d => opt (asI d) fun i => K (some i)
end
/-! sealed: they open by their equations alone -/
noncomputable def wp : Gl → E → Env → Wp := Classical.choose (⟨wp0, rfl⟩ : ∃ f, f = wp0)
noncomputable def wps : Gl → List E → Env → (List D → Prop) → Prop := Classical.choose (⟨wps0, rfl⟩ : ∃ f, f = wps0)
noncomputable def wpos : Gl → List E → Env → (List D → Prop) → Prop := Classical.choose (⟨wpos0, rfl⟩ : ∃ f, f = wpos0)
noncomputable def wpts : Gl → List E → Env → (Bool → Prop) → Prop := Classical.choose (⟨wpts0, rfl⟩ : ∃ f, f = wpts0)
noncomputable def wpo : Gl → Option E → Env → (Option Int → Prop) → Prop := Classical.choose (⟨wpo0, rfl⟩ : ∃ f, f = wpo0)
theorem wp_eq : wp = wp0 := Classical.choose_spec (⟨wp0, rfl⟩ : ∃ f, f = wp0)
theorem wps_eq : wps = wps0 := Classical.choose_spec (⟨wps0, rfl⟩ : ∃ f, f = wps0)
theorem wpos_eq : wpos = wpos0 := Classical.choose_spec (⟨wpos0, rfl⟩ : ∃ f, f = wpos0)
theorem wpts_eq : wpts = wpts0 := Classical.choose_spec (⟨wpts0, rfl⟩ : ∃ f, f = wpts0)
theorem wpo_eq : wpo = wpo0 := Classical.choose_spec (⟨wpo0, rfl⟩ : ∃ f, f = wpo0)

/-! ### it suffices -/
def Su {α : Type} (g : T → Option (α × T)) (w : (α → Prop) → Prop) : Prop := ∀ K s, TOk s → w K → ∃ a s', g s = some (a, s') ∧ TOk s' ∧ K a
theorem Su.ret {α : Type} {a : α} : Su (fun s => some (a, s)) (fun K => K a) := fun _ s t k => ⟨a, s, rfl, t, k⟩
theorem Su.bind {α β : Type} {g : T → Option (α × T)} {w : (α → Prop) → Prop} {h : α → T → Option (β × T)} {u : α → (β → Prop) → Prop} (h1 : Su g w) (h2 : ∀ a, Su (h a) (u a)) : Su (fun s => (g s).bind fun p => h p.1 p.2) (fun K => w fun a => u a K) := fun K s t k => by
  obtain ⟨a, s1, e, t1, k1⟩ := h1 _ s t k
  obtain ⟨b, s2, e2, t2, k2⟩ := h2 a K s1 t1 k1
  exact ⟨b, s2, by show (g s).bind _ = _; rw [e]; exact e2, t2, k2⟩
theorem Su.map {α β : Type} {g : T → Option (α × T)} {w : (α → Prop) → Prop} {f : α → β} (h1 : Su g w) : Su (fun s => (g s).map fun p => (f p.1, p.2)) (fun K => w fun a => K (f a)) := fun K s t k => by
  obtain ⟨a, s1, e, t1, k1⟩ := h1 _ s t k
  exact ⟨f a, s1, by show (g s).map _ = _; rw [e]; rfl, t1, k1⟩
theorem Su.opt {α β : Type} {o : Option α} {f : α → β} : Su (fun s => o.map fun d => (f d, s)) (fun K => Ip.opt o fun a => K (f a)) := fun K s t k => by
  cases o with
  | none => exact k.elim
  | some a => exact ⟨f a, s, rfl, t, k⟩
theorem Su.optb {α β : Type} {o : Option α} {f : α → T → Option (β × T)} {u : α → (β → Prop) → Prop} (h : ∀ a, Su (f a) (u a)) : Su (fun s => o.bind fun d => f d s) (fun K => Ip.opt o fun a => u a K) := fun K s t k => by
  cases o with
  | none => exact k.elim
  | some a => exact h a K s t k
theorem Su.ite {α : Type} {k : Bool} {f g : T → Option (α × T)} {u w : (α → Prop) → Prop} (h1 : Su f u) (h2 : Su g w) : Su (fun s => if k = true then f s else g s) (fun K => if k = true then u K else w K) := by
  cases k with
  | true => exact h1
  | false => exact h2
structure Sn (f : Ev) (w : Wp) : Prop where
  v : Su f.v w.v
  o : Su f.o w.o
  t : Su f.t w.t
theorem Sn.mk' {f : T → Option (D × T)} {w : (D → Prop) → Prop} (h : Su f w) : Sn (Ip.mk f) (mkW w) := ⟨h, h, Su.bind (h := fun d s => (truD d).map fun b => (b, s)) h fun _ => Su.opt (f := id)⟩
theorem Su.int {g : T → Option (D × T)} {w : (D → Prop) → Prop} (h1 : Su g w) : Su (fun s => intO (g s)) (fun K => w fun d => Ip.opt (asI d) K) := fun K s t k => by
  obtain ⟨a, s1, e, t1, k1⟩ := h1 _ s t k
  cases a with
  | int i => exact ⟨i, s1, by show intO (g s) = _; rw [e]; rfl, t1, k1⟩
  | _ => exact k1.elim
theorem Su.lcF {f : D → T → Option (Option D × T)} {w : D → (Option D → Prop) → Prop} (h : ∀ x, Su (f x) (w x)) : ∀ xs : List D, Su (Ip.lcF f xs) (wlc w xs)
  | [] => fun K s t k => ⟨[], s, rfl, t, k⟩
  | x :: xs => fun K s t k => by
    obtain ⟨a, s1, e, t1, k1⟩ := h x _ s t k
    obtain ⟨b, s2, e2, t2, k2⟩ := Su.lcF h xs _ s1 t1 k1
    refine ⟨_, s2, ?_, t2, k2⟩
    rw [Ip.lcF, e, Option.bind_some, e2]
    cases a <;> rfl
theorem Su.dcF {f : D → T → Option (Option (D × D) × T)} {w : D → (Option (D × D) → Prop) → Prop} (h : ∀ x, Su (f x) (w x)) : ∀ (xs : List D) (acc : List (D × D)), Su (Ip.dcF f xs acc) (wdc w xs acc)
  | [], acc => fun K s t k => ⟨acc, s, rfl, t, k⟩
  | x :: xs, acc => fun K s t k => by
    obtain ⟨a, s1, e, t1, k1⟩ := h x _ s t k
    rw [Ip.dcF, e, Option.bind_some]
    cases a with
    | none => exact Su.dcF h xs acc K s1 t1 k1
    | some kv =>
      dsimp only at k1 ⊢
      rw [if_pos (by rw [k1.1.1, decide_eq_true k1.1.2]; rfl)]
      exact Su.dcF h xs _ K s1 t1 k1.2
section
variable {G : Gl} {wn : Nat} {r : Env} {a b c e : E} {es cs : List E}
theorem wp_bad : wp G .bad r = mkW fun _ => False := by simp only [wp_eq, wps_eq, wpos_eq, wpts_eq, wpo_eq]; rw [wp0]
theorem wp_loc {i : Nat} : wp G (.loc i) r = ⟨fun K => opt (evV r i) K, fun K => opt (evL r i) K, fun K => opt (evL r i) fun d => opt (truD d) K⟩ := by simp only [wp_eq, wps_eq, wpos_eq, wpts_eq, wpo_eq]; rw [wp0]
theorem wp_con {d : D} : wp G (.con d) r = mkW fun K => K d := by simp only [wp_eq, wps_eq, wpos_eq, wpts_eq, wpo_eq]; rw [wp0]
theorem wp_glo {d : D} : wp G (.glo d) r = mkW fun K => K d := by simp only [wp_eq, wps_eq, wpos_eq, wpts_eq, wpo_eq]; rw [wp0]
theorem wp_bin {o : Op} : wp G (.bin o a b) r = mkW fun K => (wp G a r).o fun x => (wp G b r).o fun y => opt (binD o x y) K := by simp only [wp_eq, wps_eq, wpos_eq, wpts_eq, wpo_eq]; rw [wp0]
theorem wp_neg : wp G (.neg a) r = mkW fun K => (wp G a r).o fun x => opt (asI x) fun i => K (.int (-i)) := by simp only [wp_eq, wps_eq, wpos_eq, wpts_eq, wpo_eq]; rw [wp0]
theorem wp_not : wp G (.not_ a) r = ⟨fun K => (wp G a r).o fun x => opt (truD x) fun b => K (.bl (!b)), fun K => (wp G a r).o fun x => opt (truD x) fun b => K (.bl (!b)), fun K => (wp G a r).t fun b => K (!b)⟩ := by simp only [wp_eq, wps_eq, wpos_eq, wpts_eq, wpo_eq]; rw [wp0]
theorem wp_and : wp G (.and_ a b) r = ⟨fun K => (wp G a r).v fun x => opt (truD x) fun k => if k = true then (wp G b r).v K else K x, fun K => (wp G a r).v fun x => opt (truD x) fun k => if k = true then (wp G b r).v K else K x,
      fun K => (wp G a r).t fun k => if k = true then (wp G b r).t K else K false⟩ := by simp only [wp_eq, wps_eq, wpos_eq, wpts_eq, wpo_eq]; rw [wp0]
theorem wp_or : wp G (.or_ a b) r = ⟨fun K => (wp G a r).v fun x => opt (truD x) fun k => if k = true then K x else (wp G b r).v K, fun K => (wp G a r).v fun x => opt (truD x) fun k => if k = true then K x else (wp G b r).v K,
      fun K => (wp G a r).t fun k => if k = true then K true else (wp G b r).t K⟩ := by simp only [wp_eq, wps_eq, wpos_eq, wpts_eq, wpo_eq]; rw [wp0]
theorem wp_ite : wp G (.ite c a b) r = ⟨fun K => (wp G c r).t fun k => if k = true then (wp G a r).v K else (wp G b r).v K, fun K => (wp G c r).t fun k => if k = true then (wp G a r).v K else (wp G b r).v K,
      fun K => (wp G c r).t fun k => if k = true then (wp G a r).t K else (wp G b r).t K⟩ := by simp only [wp_eq, wps_eq, wpos_eq, wpts_eq, wpo_eq]; rw [wp0]
theorem wp_cmp {o : Cp} : wp G (.cmp o a b) r = mkW fun K => (wp G a r).o fun x => (wp G b r).o fun y => opt (cmpD o x y) fun k => K (.bl k) := by simp only [wp_eq, wps_eq, wpos_eq, wpts_eq, wpo_eq]; rw [wp0]
theorem wp_chain {o o' : Cp} : wp G (.chain o o' a b c) r = mkW fun K => (wp G a r).o fun x => (wp G b r).o fun y => opt (cmpD o x y) fun k => if k = true then (wp G c r).o fun z => opt (cmpD o' y z) fun k' => K (.bl k') else K (.bl false) := by simp only [wp_eq, wps_eq, wpos_eq, wpts_eq, wpo_eq]; rw [wp0]
theorem wp_tup : wp G (.tup es) r = mkW fun K => wps G es r fun ds => K (.tup ds) := by simp only [wp_eq, wps_eq, wpos_eq, wpts_eq, wpo_eq]; rw [wp0]
theorem wp_lst : wp G (.lst es) r = mkW fun K => wps G es r fun ds => K (.lst ds) := by simp only [wp_eq, wps_eq, wpos_eq, wpts_eq, wpo_eq]; rw [wp0]
theorem wp_call {f : Nat} : wp G (.call f es) r = mkW fun K => wps G es r fun ds => Cl G f ds K := by simp only [wp_eq, wps_eq, wpos_eq, wpts_eq, wpo_eq]; rw [wp0]
theorem wp_bi {b : Bi} : wp G (.bi b es) r = mkW fun K => wpos G es r fun ds => opt (biD b ds) K := by simp only [wp_eq, wps_eq, wpos_eq, wpts_eq, wpo_eq]; rw [wp0]
theorem wp_isi {t : Ty} : wp G (.isi t a) r = mkW fun K => (wp G a r).o fun x => opt (isiD t x) fun b => K (.bl b) := by simp only [wp_eq, wps_eq, wpos_eq, wpts_eq, wpo_eq]; rw [wp0]
theorem wp_me {m : Me} : wp G (.me m a es) r = mkW fun K => (wp G a r).o fun x => wps G es r fun ds => opt (meD m x ds) K := by simp only [wp_eq, wps_eq, wpos_eq, wpts_eq, wpo_eq]; rw [wp0]
theorem wp_sub {i : E} : wp G (.sub a i) r = mkW fun K => (wp G a r).o fun x => (wp G i r).o fun y => opt (subD x y) K := by simp only [wp_eq, wps_eq, wpos_eq, wpts_eq, wpo_eq]; rw [wp0]
theorem wp_sli {lo hi : Option E} : wp G (.sli a lo hi) r = mkW fun K => (wp G a r).o fun x => wpo G lo r fun l => wpo G hi r fun h => opt (cutD x l h) K := by simp only [wp_eq, wps_eq, wpos_eq, wpts_eq, wpo_eq]; rw [wp0]
theorem wp_rev : wp G (.rev a) r = mkW fun K => (wp G a r).o fun x => if isStr x = true then False else opt (revD x) K := by simp only [wp_eq, wps_eq, wpos_eq, wpts_eq, wpo_eq]; rw [wp0]
/-- a turn of a comprehension -/
def wlT (G : Gl) (own : List Nat) (t : Tg) (cs : List E) (e : E) (r : Env) : D → (Option D → Prop) → Prop := fun x K => opt (bindT t x (wipeE r own)) fun r' => wpts G cs r' fun b => if b = true then (wp G e r').v fun d => K (some d) else K none
theorem wp_lc {own : List Nat} {t : Tg} {k : Ik} : wp G (.lc own t k es cs e) r = mkW fun K => wpos G es r fun ds => opt (itD k ds) fun xs => wlc (wlT G own t cs e r) xs fun ds => K (.lst ds) := by
  show _ = mkW fun K => wpos G es r fun ds => opt (itD k ds) fun xs => wlc (fun x K => opt (bindT t x (wipeE r own)) fun r' => wpts G cs r' fun b => if b = true then (wp G e r').v fun d => K (some d) else K none) xs fun ds => K (.lst ds)
  simp only [wp_eq, wps_eq, wpos_eq, wpts_eq, wpo_eq]
  rw [wp0]
theorem wp_dct : wp G (.dct es) r = mkW fun K => wps G es r fun ds => opt (pairUp ds) fun ps => opt (dPuts [] ps) fun kvs => K (.dic kvs) := by simp only [wp_eq, wps_eq, wpos_eq, wpts_eq, wpo_eq]; rw [wp0]
/-- a turn of a dict comprehension -/
def wdT (G : Gl) (own : List Nat) (t : Tg) (cs : List E) (ek e : E) (r : Env) : D → (Option (D × D) → Prop) → Prop := fun x K => opt (bindT t x (wipeE r own)) fun r' => wpts G cs r' fun b => if b = true then (wp G ek r').v fun k => (wp G e r').v fun d => K (some (k, d)) else K none
theorem wp_dc {own : List Nat} {t : Tg} {k : Ik} {ek : E} : wp G (.dc own t k es cs ek e) r = mkW fun K => wpos G es r fun ds => opt (itD k ds) fun xs => wdc (wdT G own t cs ek e r) xs [] fun kvs => K (.dic kvs) := by
  show _ = mkW fun K => wpos G es r fun ds => opt (itD k ds) fun xs => wdc (fun x K => opt (bindT t x (wipeE r own)) fun r' => wpts G cs r' fun b => if b = true then (wp G ek r').v fun k => (wp G e r').v fun d => K (some (k, d)) else K none) xs [] fun kvs => K (.dic kvs)
  simp only [wp_eq, wps_eq, wpos_eq, wpts_eq, wpo_eq]
  rw [wp0]
theorem wps_nil {K : List D → Prop} : wps G [] r K = K [] := by simp only [wp_eq, wps_eq, wpos_eq, wpts_eq, wpo_eq]; rw [wps0]
theorem wps_cons {K : List D → Prop} : wps G (e :: es) r K = (wp G e r).v fun d => wps G es r fun ds => K (d :: ds) := by simp only [wp_eq, wps_eq, wpos_eq, wpts_eq, wpo_eq]; rw [wps0]
theorem wpos_nil {K : List D → Prop} : wpos G [] r K = K [] := by simp only [wp_eq, wps_eq, wpos_eq, wpts_eq, wpo_eq]; rw [wpos0]
theorem wpos_cons {K : List D → Prop} : wpos G (e :: es) r K = (wp G e r).o fun d => wpos G es r fun ds => K (d :: ds) := by simp only [wp_eq, wps_eq, wpos_eq, wpts_eq, wpo_eq]; rw [wpos0]
theorem wpts_nil {K : Bool → Prop} : wpts G [] r K = K true := by simp only [wp_eq, wps_eq, wpos_eq, wpts_eq, wpo_eq]; rw [wpts0]
theorem wpts_cons {K : Bool → Prop} : wpts G (e :: es) r K = (wp G e r).t fun b => if b = true then wpts G es r K else K false := by simp only [wp_eq, wps_eq, wpos_eq, wpts_eq, wpo_eq]; rw [wpts0]
theorem wpo_none {K : Option Int → Prop} : wpo G none r K = K none := by simp only [wp_eq, wps_eq, wpos_eq, wpts_eq, wpo_eq]; rw [wpo0]
theorem wpo_some {K : Option Int → Prop} : wpo G (some e) r K = (wp G e r).o fun d => opt (asI d) fun i => K (some i) := by simp only [wp_eq, wps_eq, wpos_eq, wpts_eq, wpo_eq]; rw [wpo0]
end
section
variable {G : Gl} {wn : Nat}
mutual
theorem wp_ok : ∀ (e : E) (r : Env), Sn (ev G e r) (wp G e r)
  | .bad, r => by rw [ev_bad, wp_bad]; exact .mk' fun _ _ _ k => k.elim
  | .loc i, r => by
    rw [ev_loc, wp_loc]
    exact ⟨Su.opt (f := id), Su.opt (f := id), Su.optb (f := fun d s => (truD d).map fun b => (b, s)) fun _ => Su.opt (f := id)⟩
  | .con d, r => by rw [ev_con, wp_con]; exact .mk' Su.ret
  | .glo d, r => by rw [ev_glo, wp_glo]; exact .mk' Su.ret
  | .bin o a b, r => by
    rw [ev_bin, wp_bin]
    exact .mk' (Su.bind (h := fun x s => ((ev G b r).o s).bind fun q => (binD o x q.1).map fun d => (d, q.2)) (wp_ok a r).o fun x => Su.bind (h := fun y s => (binD o x y).map fun d => (d, s)) (wp_ok b r).o fun y => Su.opt (f := id))
  | .neg a, r => by
    rw [ev_neg, wp_neg]
    exact .mk' (Su.map (f := fun i => D.int (-i)) (Su.int (wp_ok a r).o))
  | .not_ a, r => by
    rw [ev_not, wp_not]
    have v : Su (fun s => ((ev G a r).o s).bind fun p => (truD p.1).map fun b => (D.bl (!b), p.2)) (fun K => (wp G a r).o fun x => opt (truD x) fun b => K (.bl (!b))) := Su.bind (h := fun x s => (truD x).map fun b => (D.bl (!b), s)) (wp_ok a r).o fun x => Su.opt
    exact ⟨v, v, Su.map (f := fun b => !b) (wp_ok a r).t⟩
  | .and_ a b, r => by
    rw [ev_and, wp_and]
    have v : Su (fun s => ((ev G a r).v s).bind fun p => (truD p.1).bind fun k => if k = true then (ev G b r).v p.2 else some p) (fun K => (wp G a r).v fun x => opt (truD x) fun k => if k = true then (wp G b r).v K else K x) :=
      Su.bind (h := fun x s => (truD x).bind fun k => if k = true then (ev G b r).v s else some (x, s)) (wp_ok a r).v fun x => Su.optb (f := fun (k : Bool) s => if k = true then (ev G b r).v s else some (x, s)) fun k => Su.ite (wp_ok b r).v Su.ret
    exact ⟨v, v, Su.bind (h := fun (k : Bool) s => if k = true then (ev G b r).t s else some (false, s)) (u := fun k K => if k = true then (wp G b r).t K else K false) (wp_ok a r).t fun k => Su.ite (wp_ok b r).t Su.ret⟩
  | .or_ a b, r => by
    rw [ev_or, wp_or]
    have v : Su (fun s => ((ev G a r).v s).bind fun p => (truD p.1).bind fun k => if k = true then some p else (ev G b r).v p.2) (fun K => (wp G a r).v fun x => opt (truD x) fun k => if k = true then K x else (wp G b r).v K) :=
      Su.bind (h := fun x s => (truD x).bind fun k => if k = true then some (x, s) else (ev G b r).v s) (wp_ok a r).v fun x => Su.optb (f := fun (k : Bool) s => if k = true then some (x, s) else (ev G b r).v s) fun k => Su.ite Su.ret (wp_ok b r).v
    exact ⟨v, v, Su.bind (h := fun (k : Bool) s => if k = true then some (true, s) else (ev G b r).t s) (u := fun k K => if k = true then K true else (wp G b r).t K) (wp_ok a r).t fun k => Su.ite Su.ret (wp_ok b r).t⟩
  | .ite c a b, r => by
    rw [ev_ite, wp_ite]
    exact ⟨Su.bind (h := fun (k : Bool) s => if k = true then (ev G a r).v s else (ev G b r).v s) (wp_ok c r).t fun k => Su.ite (wp_ok a r).v (wp_ok b r).v,
      Su.bind (h := fun (k : Bool) s => if k = true then (ev G a r).v s else (ev G b r).v s) (wp_ok c r).t fun k => Su.ite (wp_ok a r).v (wp_ok b r).v,
      Su.bind (h := fun (k : Bool) s => if k = true then (ev G a r).t s else (ev G b r).t s) (u := fun k K => if k = true then (wp G a r).t K else (wp G b r).t K) (wp_ok c r).t fun k => Su.ite (wp_ok a r).t (wp_ok b r).t⟩
  | .cmp o a b, r => by
    rw [ev_cmp, wp_cmp]
    exact .mk' (Su.bind (h := fun x s => ((ev G b r).o s).bind fun q => (cmpD o x q.1).map fun k => (D.bl k, q.2)) (wp_ok a r).o fun x => Su.bind (h := fun y s => (cmpD o x y).map fun k => (D.bl k, s)) (wp_ok b r).o fun y => Su.opt)
  | .chain o o' a b c, r => by
    rw [ev_chain, wp_chain]
    exact .mk' (Su.bind (h := fun x s => ((ev G b r).o s).bind fun q => (cmpD o x q.1).bind fun k => if k = true then ((ev G c r).o q.2).bind fun u => (cmpD o' q.1 u.1).map fun k' => (D.bl k', u.2) else some (D.bl false, q.2)) (wp_ok a r).o fun x =>
      Su.bind (h := fun y s => (cmpD o x y).bind fun k => if k = true then ((ev G c r).o s).bind fun u => (cmpD o' y u.1).map fun k' => (D.bl k', u.2) else some (D.bl false, s)) (wp_ok b r).o fun y =>
      Su.optb (f := fun (k : Bool) s => if k = true then ((ev G c r).o s).bind fun u => (cmpD o' y u.1).map fun k' => (D.bl k', u.2) else some (D.bl false, s)) fun k => Su.ite
        (Su.bind (h := fun z s => (cmpD o' y z).map fun k' => (D.bl k', s)) (wp_ok c r).o fun z => Su.opt) Su.ret)
  | .tup es, r => by
    rw [ev_tup, wp_tup]
    exact .mk' (Su.map (wps_ok es r))
  | .lst es, r => by
    rw [ev_lst, wp_lst]
    exact .mk' (Su.map (wps_ok es r))
  | .call f es, r => by
    rw [ev_call, wp_call]
    exact .mk' (Su.bind (h := fun ds s => G.cl f ds s) (u := fun ds K => Cl G f ds K) (wps_ok es r) fun ds K s t k => k s t)
  | .bi o es, r => by
    rw [ev_bi, wp_bi]
    exact .mk' (Su.bind (h := fun ds s => (biD o ds).map fun d => (d, s)) (wpos_ok es r) fun ds => Su.opt (f := id))
  | .isi t a, r => by
    rw [ev_isi, wp_isi]
    exact .mk' (Su.bind (h := fun x s => (isiD t x).map fun b => (D.bl b, s)) (wp_ok a r).o fun x => Su.opt)
  | .me m a es, r => by
    rw [ev_me, wp_me]
    exact .mk' (Su.bind (h := fun x s => (evs G es r s).bind fun q => (meD m x q.1).map fun d => (d, q.2)) (wp_ok a r).o fun x => Su.bind (h := fun ds s => (meD m x ds).map fun d => (d, s)) (wps_ok es r) fun ds => Su.opt (f := id))
  | .sub a i, r => by
    rw [ev_sub, wp_sub]
    exact .mk' (Su.bind (h := fun x s => ((ev G i r).o s).bind fun q => (subD x q.1).map fun d => (d, q.2)) (wp_ok a r).o fun x => Su.bind (h := fun y s => (subD x y).map fun d => (d, s)) (wp_ok i r).o fun y => Su.opt (f := id))
  | .sli a lo hi, r => by
    rw [ev_sli, wp_sli]
    exact .mk' (Su.bind (h := fun x s => (evo? G lo r s).bind fun l => (evo? G hi r l.2).bind fun h => (cutD x l.1 h.1).map fun d => (d, h.2)) (wp_ok a r).o fun x =>
      Su.bind (h := fun l s => (evo? G hi r s).bind fun h => (cutD x l h.1).map fun d => (d, h.2)) (wpo_ok lo r) fun l => Su.bind (h := fun h s => (cutD x l h).map fun d => (d, s)) (wpo_ok hi r) fun h => Su.opt (f := id))
  | .rev a, r => by
    rw [ev_rev, wp_rev]
    exact .mk' (Su.bind (h := fun x s => if isStr x then none else (revD x).map fun d => (d, s)) (wp_ok a r).o fun x => by
      cases isStr x with
      | true => exact fun _ _ _ k => k.elim
      | false => exact Su.opt (f := id))
  | .lc own t k es cs e, r => by
    rw [ev_lc, wp_lc]
    exact .mk' (Su.bind (h := fun ds s => (itD k ds).bind fun xs => (lcF (lcT G own t cs e r) xs s).map fun q => (D.lst q.1, q.2)) (wpos_ok es r) fun ds =>
      Su.optb (f := fun xs s => (lcF (lcT G own t cs e r) xs s).map fun q => (D.lst q.1, q.2)) fun xs => Su.map (Su.lcF (fun x => Su.optb (f := fun r' s => (evts G cs r' s).bind fun q => if q.1 then ((ev G e r').v q.2).map fun u => (some u.1, u.2) else some (none, q.2)) fun r' =>
        Su.bind (h := fun (b : Bool) s => if b then ((ev G e r').v s).map fun u => (some u.1, u.2) else some (none, s)) (wpts_ok cs r') fun b => Su.ite (Su.map (f := some) (wp_ok e r').v) Su.ret) xs))
  | .dct es, r => by
    rw [ev_dct, wp_dct]
    exact .mk' (Su.bind (h := fun ds s => (pairUp ds).bind fun ps => (dPuts [] ps).map fun kvs => (D.dic kvs, s)) (wps_ok es r) fun ds => Su.optb (f := fun ps s => (dPuts [] ps).map fun kvs => (D.dic kvs, s)) fun ps => Su.opt)
  | .dc own t k es cs ek e, r => by
    rw [ev_dc, wp_dc]
    exact .mk' (Su.bind (h := fun ds s => (itD k ds).bind fun xs => (dcF (dcT G own t cs ek e r) xs [] s).map fun q => (D.dic q.1, q.2)) (wpos_ok es r) fun ds =>
      Su.optb (f := fun xs s => (dcF (dcT G own t cs ek e r) xs [] s).map fun q => (D.dic q.1, q.2)) fun xs => Su.map (Su.dcF (fun x => Su.optb (f := fun r' s => (evts G cs r' s).bind fun q => if q.1 then ((ev G ek r').v q.2).bind fun u => ((ev G e r').v u.2).map fun w => (some (u.1, w.1), w.2) else some (none, q.2)) fun r' =>
        Su.bind (h := fun (b : Bool) s => if b then ((ev G ek r').v s).bind fun u => ((ev G e r').v u.2).map fun w => (some (u.1, w.1), w.2) else some (none, s)) (wpts_ok cs r') fun b => Su.ite (Su.bind (h := fun u s => ((ev G e r').v s).map fun w => (some (u, w.1), w.2)) (wp_ok ek r').v fun u => Su.map (f := fun w => some (u, w)) (wp_ok e r').v) Su.ret) xs []))
theorem wps_ok : ∀ (es : List E) (r : Env), Su (evs G es r) (wps G es r)
  | [], r => fun K s t k => by
    rw [wps_nil] at k
    exact ⟨[], s, by rw [evs_nil], t, k⟩
  | e :: es, r => fun K s t k => by
    rw [wps_cons] at k
    rw [evs_cons]
    exact Su.bind (h := fun d s => (evs G es r s).map fun q => (d :: q.1, q.2)) (wp_ok e r).v (fun d => Su.map (f := fun ds => d :: ds) (wps_ok es r)) K s t k
theorem wpos_ok : ∀ (es : List E) (r : Env), Su (evos G es r) (wpos G es r)
  | [], r => fun K s t k => by
    rw [wpos_nil] at k
    exact ⟨[], s, by rw [evos_nil], t, k⟩
  | e :: es, r => fun K s t k => by
    rw [wpos_cons] at k
    rw [evos_cons]
    exact Su.bind (h := fun d s => (evos G es r s).map fun q => (d :: q.1, q.2)) (wp_ok e r).o (fun d => Su.map (f := fun ds => d :: ds) (wpos_ok es r)) K s t k
theorem wpts_ok : ∀ (es : List E) (r : Env), Su (evts G es r) (wpts G es r)
  | [], r => fun K s t k => by
    rw [wpts_nil] at k
    exact ⟨true, s, by rw [evts_nil], t, k⟩
  | e :: es, r => fun K s t k => by
    rw [wpts_cons] at k
    rw [evts_cons]
    exact Su.bind (h := fun (b : Bool) s => if b then evts G es r s else some (false, s)) (wp_ok e r).t (fun b => Su.ite (wpts_ok es r) Su.ret) K s t k
theorem wpo_ok : ∀ (e : Option E) (r : Env), Su (evo? G e r) (wpo G e r)
  | none, r => fun K s t k => by
    rw [wpo_none] at k
    exact ⟨none, s, by rw [evo_none], t, k⟩
  | some e, r => fun K s t k => by
    rw [wpo_some] at k
    rw [evo_some]
    exact Su.map (f := some) (Su.int (wp_ok e r).o) K s t k
end
end

/-! ### statements -/
structure Po4 where
  nx : Env → Prop
  rt : D → Prop
  bk : Env → Prop
  ct : Env → Prop
/-- of slots that know no more -/
def up (J : Env → Prop) (r : Env) : Prop := ∃ r0, LeE r0 r ∧ J r0
theorem up_of {J : Env → Prop} {r : Env} (h : J r) : up J r := ⟨r, LeE.refl r, h⟩
theorem up_le {J : Env → Prop} {r r' : Env} (h : LeE r r') : up J r → up J r' := fun ⟨r0, h0, j⟩ => ⟨r0, h0.trans h, j⟩
theorem up_up {J : Env → Prop} {r : Env} : up (up J) r → up J r := fun ⟨_, h, j⟩ => up_le h j
def Sat (Q : Po4) : R → Prop
  | .nx r s => TOk s ∧ up Q.nx r
  | .rt d s => TOk s ∧ Q.rt d
  | .bk r s => TOk s ∧ up Q.bk r
  | .ct r s => TOk s ∧ up Q.ct r
/-- the turns of a loop -/
def wfor (f : D → Env → Po4 → Prop) (Q : Po4) : List D → Env → Prop
  | [], r => Q.nx r
  | x :: xs, r => f x r ⟨up fun r => wfor f Q xs r, Q.rt, Q.nx, up fun r => wfor f Q xs r⟩
def wwhl (c : Env → (Bool → Prop) → Prop) (f : Env → Po4 → Prop) (Q : Po4) : Nat → Env → Prop
  | 0, _ => False
  | n + 1, r => c r fun b => if b = true then f r ⟨up fun r => wwhl c f Q n r, Q.rt, Q.nx, up fun r => wwhl c f Q n r⟩ else Q.nx r
mutual
def wx0 (G : Gl) (wn : Nat) : S → Env → Po4 → Prop
  | .bad, _, _ => False
  | .fz is x, r, Q => wx0 G wn x (frz is r) Q
  | .set i w e, r, Q => (wp G e r).v fun d => Q.nx (setO r i w d)
  | .par is es, r, Q => wps G es r fun ds => opt (setOs is ds r) Q.nx
  | .tgt ts e, r, Q => (wp G e r).v fun d => opt (bindAll ts d r) Q.nx
  | .aug i o e, r, Q => opt (evV r i) fun x => (wp G e r).o fun y => opt (binD o x y) fun d => opt (asI d) fun k => Q.nx (r.set i (some (false, .int k)))
  | .app i e, r, Q => (wp G e r).v fun d => opt (ownL r i) fun xs => xs.length < szL ∧ Q.nx (r.set i (some (true, .lst (xs ++ [d]))))
  | .ext i e, r, Q => (wp G e r).v fun d => opt (ownL r i) fun xs => opt (seqD d) fun ys => xs.length + ys.length ≤ szL ∧ Q.nx (r.set i (some (true, .lst (xs ++ ys))))
  | .pop _ _ _, _, _ => False
  | .sti i k v, r, Q => (wp G v r).v fun d => (wp G k r).o fun z => opt (asI z) fun j => opt (ownL r i) fun xs => opt (ixP xs.length j) fun j => Q.nx (r.set i (some (true, .lst (xs.set j d))))
  | .dput i k v, r, Q => (wp G v r).v fun d => (wp G k r).v fun z => opt (ownD r i) fun kvs => (keysOk kvs z = true ∧ kvs.length < szL) ∧ Q.nx (r.set i (some (true, .dic (dPut kvs z d))))
  | .exp e, r, Q => (wp G e r).v fun _ => Q.nx r
  | .ret e, r, Q => (wp G e r).v Q.rt
  | .ife c a b, r, Q => (wp G c r).t fun k => if k = true then wxs0 G wn a r Q else wxs0 G wn b r Q
  | .for_ t k es b, r, Q => wps G es r fun ds => opt (itD k ds) fun xs => wfor (fun x r Q => opt (bindT t x r) fun r' => wxs0 G wn b r' Q) Q xs r
  | .whl c b, r, Q => wwhl (fun r => (wp G c r).t) (fun r Q => wxs0 G wn b r Q) Q wn r
  | .brk, r, Q => Q.bk r
  | .cnt, r, Q => Q.ct r
  | .pas, r, Q => Q.nx r
def wxs0 (G : Gl) (wn : Nat) : List S → Env → Po4 → Prop
  | [], r, Q => Q.nx r
  | x :: xs, r, Q => wx0 G wn x r ⟨fun r => wxs0 G wn xs r Q, Q.rt, Q.bk, Q.ct⟩
end
noncomputable def wx : Gl → Nat → S → Env → Po4 → Prop := Classical.choose (⟨wx0, rfl⟩ : ∃ f, f = wx0)
noncomputable def wxs : Gl → Nat → List S → Env → Po4 → Prop := Classical.choose (⟨wxs0, rfl⟩ : ∃ f, f = wxs0)
theorem wx_eq : wx = wx0 := Classical.choose_spec (⟨wx0, rfl⟩ : ∃ f, f = wx0)
theorem wxs_eq : wxs = wxs0 := Classical.choose_spec (⟨wxs0, rfl⟩ : ∃ f, f = wxs0)
section
variable {G : Gl} {wn : Nat} {r : Env} {a b c e : E} {es cs : List E} {Q : Po4}
theorem wx_bad : wx G wn .bad r Q = False := by simp only [wx_eq, wxs_eq]; rw [wx0]
theorem wx_fz {is : List Nat} {x : S} : wx G wn (.fz is x) r Q = wx G wn x (frz is r) Q := by simp only [wx_eq, wxs_eq]; rw [wx0]
theorem wx_set {i : Nat} {w : Bool} : wx G wn (.set i w e) r Q = (wp G e r).v fun d => Q.nx (setO r i w d) := by simp only [wx_eq, wxs_eq]; rw [wx0]
theorem wx_par {is : List (Nat × Bool)} : wx G wn (.par is es) r Q = wps G es r fun ds => opt (setOs is ds r) Q.nx := by simp only [wx_eq, wxs_eq]; rw [wx0]
theorem wx_tgt {ts : List Tg} : wx G wn (.tgt ts e) r Q = (wp G e r).v fun d => opt (bindAll ts d r) Q.nx := by simp only [wx_eq, wxs_eq]; rw [wx0]
theorem wx_aug {i : Nat} {o : Op} : wx G wn (.aug i o e) r Q = opt (evV r i) fun x => (wp G e r).o fun y => opt (binD o x y) fun d => opt (asI d) fun k => Q.nx (r.set i (some (false, .int k))) := by simp only [wx_eq, wxs_eq]; rw [wx0]
theorem wx_app {i : Nat} : wx G wn (.app i e) r Q = (wp G e r).v fun d => opt (ownL r i) fun xs => xs.length < szL ∧ Q.nx (r.set i (some (true, .lst (xs ++ [d])))) := by simp only [wx_eq, wxs_eq]; rw [wx0]
theorem wx_ext {i : Nat} : wx G wn (.ext i e) r Q = (wp G e r).v fun d => opt (ownL r i) fun xs => opt (seqD d) fun ys => xs.length + ys.length ≤ szL ∧ Q.nx (r.set i (some (true, .lst (xs ++ ys)))) := by simp only [wx_eq, wxs_eq]; rw [wx0]
theorem wx_sti {i : Nat} {k v : E} : wx G wn (.sti i k v) r Q = (wp G v r).v fun d => (wp G k r).o fun z => opt (asI z) fun j => opt (ownL r i) fun xs => opt (ixP xs.length j) fun j => Q.nx (r.set i (some (true, .lst (xs.set j d)))) := by simp only [wx_eq, wxs_eq]; rw [wx0]
theorem wx_dput {i : Nat} {k v : E} : wx G wn (.dput i k v) r Q = (wp G v r).v fun d => (wp G k r).v fun z => opt (ownD r i) fun kvs => (keysOk kvs z = true ∧ kvs.length < szL) ∧ Q.nx (r.set i (some (true, .dic (dPut kvs z d)))) := by simp only [wx_eq, wxs_eq]; rw [wx0]
theorem wx_exp : wx G wn (.exp e) r Q = (wp G e r).v fun _ => Q.nx r := by simp only [wx_eq, wxs_eq]; rw [wx0]
theorem wx_ret : wx G wn (.ret e) r Q = (wp G e r).v Q.rt := by simp only [wx_eq, wxs_eq]; rw [wx0]
theorem wx_ife {x y : List S} : wx G wn (.ife c x y) r Q = (wp G c r).t fun k => if k = true then wxs G wn x r Q else wxs G wn y r Q := by simp only [wx_eq, wxs_eq]; rw [wx0]
/-- a loop's turn -/
def wfT (G : Gl) (wn : Nat) (t : Tg) (b : List S) : D → Env → Po4 → Prop := fun x r Q => opt (bindT t x r) fun r' => wxs G wn b r' Q
theorem wx_for {t : Tg} {k : Ik} {b : List S} : wx G wn (.for_ t k es b) r Q = wps G es r fun ds => opt (itD k ds) fun xs => wfor (wfT G wn t b) Q xs r := by
  show _ = wps G es r fun ds => opt (itD k ds) fun xs => wfor (fun x r Q => opt (bindT t x r) fun r' => wxs G wn b r' Q) Q xs r
  simp only [wx_eq, wxs_eq]
  rw [wx0]
theorem wx_whl {b : List S} : wx G wn (.whl c b) r Q = wwhl (fun r => (wp G c r).t) (fun r Q => wxs G wn b r Q) Q wn r := by simp only [wx_eq, wxs_eq]; rw [wx0]
theorem wx_pop {a : Option Tg} {i : Nat} {o : Option E} : wx G wn (.pop a i o) r Q = False := by simp only [wx_eq, wxs_eq]; rw [wx0]
theorem wx_brk : wx G wn .brk r Q = Q.bk r := by simp only [wx_eq, wxs_eq]; rw [wx0]
theorem wx_cnt : wx G wn .cnt r Q = Q.ct r := by simp only [wx_eq, wxs_eq]; rw [wx0]
theorem wx_pas : wx G wn .pas r Q = Q.nx r := by simp only [wx_eq, wxs_eq]; rw [wx0]
theorem wxs_nil : wxs G wn [] r Q = Q.nx r := by simp only [wx_eq, wxs_eq]; rw [wxs0]
theorem wxs_cons {x : S} {xs : List S} : wxs G wn (x :: xs) r Q = wx G wn x r ⟨fun r => wxs G wn xs r Q, Q.rt, Q.bk, Q.ct⟩ := by simp only [wx_eq, wxs_eq]; rw [wxs0]
end
theorem Sat.le {Q : Po4} {o o' : R} (h : LeR o o') (q : Sat Q o) : Sat Q o' := by
  cases o with
  | nx r s =>
    cases o' with
    | nx r' s' => obtain ⟨h, rfl⟩ := h; exact ⟨q.1, up_le h q.2⟩
    | _ => exact h.elim
  | bk r s =>
    cases o' with
    | bk r' s' => obtain ⟨h, rfl⟩ := h; exact ⟨q.1, up_le h q.2⟩
    | _ => exact h.elim
  | ct r s =>
    cases o' with
    | ct r' s' => obtain ⟨h, rfl⟩ := h; exact ⟨q.1, up_le h q.2⟩
    | _ => exact h.elim
  | rt d s =>
    cases o' with
    | rt d' s' => obtain ⟨rfl, rfl⟩ := h; exact q
    | _ => exact h.elim
def Ok (o : Option R) (Q : Po4) : Prop := ∃ x, o = some x ∧ Sat Q x
theorem Ok.le {o o' : Option R} {Q : Po4} (h : LoR o o') (q : Ok o Q) : Ok o' Q := by
  obtain ⟨x, e, s⟩ := q
  obtain ⟨x', e', l⟩ := h x e
  exact ⟨x', e', s.le l⟩
theorem Ok.nx {r : Env} {s : T} {Q : Po4} (t : TOk s) (h : Q.nx r) : Ok (some (.nx r s)) Q := ⟨_, rfl, t, up_of h⟩
/-- from a reading to a statement -/
theorem Su.ok {α : Type} {g : T → Option (α × T)} {w : (α → Prop) → Prop} {f : α × T → Option R} {Q : Po4} {s : T} {K : α → Prop} (h : Su g w) (t : TOk s) (k : w K) (h2 : ∀ a s', TOk s' → K a → Ok (f (a, s')) Q) : Ok ((g s).bind f) Q := by
  obtain ⟨a, s1, e, t1, k1⟩ := h K s t k
  rw [e, Option.bind_some]
  exact h2 a s1 t1 k1
theorem opt_ok {α : Type} {o : Option α} {f : α → Option R} {Q : Po4} {K : α → Prop} (k : opt o K) (h2 : ∀ a, K a → Ok (f a) Q) : Ok (o.bind f) Q := by
  cases o with
  | none => exact k.elim
  | some a => exact h2 a k
theorem map_eq_bind {α β : Type} {o : Option α} {f : α → β} : o.map f = o.bind fun a => some (f a) := by cases o <;> rfl
theorem for_ok {f : D → Env → T → Option R} {w : D → Env → Po4 → Prop} {Q : Po4} (hl : ∀ d {r r'} s, LeE r r' → LoR (f d r s) (f d r' s)) (h : ∀ x r Q s, TOk s → w x r Q → Ok (f x r s) Q) : ∀ (xs : List D) (r : Env) (s : T), TOk s → wfor w Q xs r → Ok (forF f xs r s) ⟨Q.nx, Q.rt, fun _ => False, fun _ => False⟩
  | [], r, s, t, k => Ok.nx t k
  | x :: xs, r, s, t, k => by
    obtain ⟨o, e, q⟩ := h x r _ s t k
    rw [forF, e, Option.bind_some]
    cases o with
    | nx r1 s1 =>
      obtain ⟨t1, u⟩ := q
      obtain ⟨r0, l, k0⟩ := up_up u
      exact Ok.le (forF_le hl xs s1 l) (for_ok hl h xs r0 s1 t1 k0)
    | ct r1 s1 =>
      obtain ⟨t1, u⟩ := q
      obtain ⟨r0, l, k0⟩ := up_up u
      exact Ok.le (forF_le hl xs s1 l) (for_ok hl h xs r0 s1 t1 k0)
    | bk r1 s1 => exact ⟨_, rfl, q.1, q.2⟩
    | rt d s1 => exact ⟨_, rfl, q⟩
theorem whl_ok {f : Env → T → Option (Bool × R)} {c : Env → (Bool → Prop) → Prop} {w : Env → Po4 → Prop} {Q : Po4} (hl : ∀ {r r'} s, LeE r r' → LoB (f r s) (f r' s)) (h : ∀ r K Q s, TOk s → c r K → (K true → w r Q) → (∃ x, f r s = some (true, x) ∧ Sat Q x) ∨ ∃ s', f r s = some (false, .nx r s') ∧ TOk s' ∧ K false) : ∀ (n : Nat) (r : Env) (s : T), TOk s → wwhl c w Q n r → Ok (whF f n r s) ⟨Q.nx, Q.rt, fun _ => False, fun _ => False⟩
  | 0, r, s, t, k => k.elim
  | n + 1, r, s, t, k => by
    rw [whF]
    rcases h r _ ⟨up fun r => wwhl c w Q n r, Q.rt, Q.nx, up fun r => wwhl c w Q n r⟩ s t k (fun k => by rw [if_pos rfl] at k; exact k) with ⟨o, e, q⟩ | ⟨s', e, t', k'⟩
    · rw [e, Option.bind_some]
      dsimp only
      rw [if_pos rfl]
      cases o with
      | nx r1 s1 =>
        obtain ⟨t1, u⟩ := q
        obtain ⟨r0, l, k0⟩ := up_up u
        exact Ok.le (whF_le hl n s1 l) (whl_ok hl h n r0 s1 t1 k0)
      | ct r1 s1 =>
        obtain ⟨t1, u⟩ := q
        obtain ⟨r0, l, k0⟩ := up_up u
        exact Ok.le (whF_le hl n s1 l) (whl_ok hl h n r0 s1 t1 k0)
      | bk r1 s1 => exact ⟨_, rfl, q.1, q.2⟩
      | rt d s1 => exact ⟨_, rfl, q⟩
    · rw [e, Option.bind_some]
      dsimp only
      rw [if_neg (by decide)]
      rw [if_neg (by decide)] at k'
      exact ⟨_, rfl, t', up_of k'⟩
theorem Ok.fin {o : Option R} {Q Q' : Po4} (q : Ok o ⟨Q.nx, Q.rt, fun _ => False, fun _ => False⟩) : Ok o Q := by
  obtain ⟨x, e, s⟩ := q
  refine ⟨x, e, ?_⟩
  cases x with
  | nx r s' => exact s
  | rt d s' => exact s
  | bk r s' => obtain ⟨_, _, _, h⟩ := s; exact h.elim
  | ct r s' => obtain ⟨_, _, _, h⟩ := s; exact h.elim
section
variable {G : Gl} {wn : Nat}
mutual
theorem wx_ok : ∀ (x : S) (r : Env) (Q : Po4) (s : T), TOk s → wx G wn x r Q → Ok (ex G wn x r s) Q
  | .bad, r, Q, s, t, k => by rw [wx_bad] at k; exact k.elim
  | .fz is x, r, Q, s, t, k => by
    rw [wx_fz] at k
    rw [ex_fz]
    exact wx_ok x _ Q s t k
  | .set i w e, r, Q, s, t, k => by
    rw [wx_set] at k
    rw [ex_set, map_eq_bind]
    exact Su.ok (wp_ok e r).v t k fun a s' t' k' => Ok.nx t' k'
  | .par is es, r, Q, s, t, k => by
    rw [wx_par] at k
    rw [ex_par]
    exact Su.ok (wps_ok es r) t k fun a s' t' k' => by
      rw [map_eq_bind]
      exact opt_ok k' fun a k => Ok.nx t' k
  | .tgt ts e, r, Q, s, t, k => by
    rw [wx_tgt] at k
    rw [ex_tgt]
    exact Su.ok (wp_ok e r).v t k fun a s' t' k' => by
      rw [map_eq_bind]
      exact opt_ok k' fun a k => Ok.nx t' k
  | .aug i o e, r, Q, s, t, k => by
    rw [wx_aug] at k
    rw [ex_aug]
    exact opt_ok k fun x k => Su.ok (wp_ok e r).o t k fun y s' t' k' => opt_ok k' fun d k => by
      cases d with
      | int i => exact Ok.nx t' k
      | _ => exact k.elim
  | .app i e, r, Q, s, t, k => by
    rw [wx_app] at k
    rw [ex_app]
    exact Su.ok (wp_ok e r).v t k fun a s' t' k' => opt_ok k' fun xs k => by
      rw [if_pos k.1]
      exact Ok.nx t' k.2
  | .ext i e, r, Q, s, t, k => by
    rw [wx_ext] at k
    rw [ex_ext]
    exact Su.ok (wp_ok e r).v t k fun a s' t' k' => opt_ok k' fun xs k => by
      cases a with
      | lst ys =>
        dsimp only
        rw [if_pos k.1]
        exact Ok.nx t' k.2
      | tup ys =>
        dsimp only
        rw [if_pos k.1]
        exact Ok.nx t' k.2
      | _ => exact k.elim
  | .pop _ _ _, r, Q, s, t, k => by rw [wx_pop] at k; exact k.elim
  | .sti i j v, r, Q, s, t, k => by
    rw [wx_sti] at k
    rw [ex_sti]
    exact Su.ok (wp_ok v r).v t k fun a s' t' k' => Su.ok (Su.int (wp_ok j r).o) t' k' fun z s2 t2 k2 => opt_ok k2 fun xs k3 => by
      rw [map_eq_bind]
      exact opt_ok k3 fun j k => Ok.nx t2 k
  | .dput i j v, r, Q, s, t, k => by
    rw [wx_dput] at k
    rw [ex_dput]
    exact Su.ok (wp_ok v r).v t k fun a s' t' k' => Su.ok (wp_ok j r).v t' k' fun z s2 t2 k2 => opt_ok k2 fun kvs k3 => by
      rw [if_pos (by rw [k3.1.1, decide_eq_true k3.1.2]; rfl)]
      exact Ok.nx t2 k3.2
  | .exp e, r, Q, s, t, k => by
    rw [wx_exp] at k
    rw [ex_exp, map_eq_bind]
    exact Su.ok (wp_ok e r).v t k fun a s' t' k' => Ok.nx t' k'
  | .ret e, r, Q, s, t, k => by
    rw [wx_ret] at k
    rw [ex_ret, map_eq_bind]
    exact Su.ok (wp_ok e r).v t k fun a s' t' k' => ⟨_, rfl, t', k'⟩
  | .ife c a b, r, Q, s, t, k => by
    rw [wx_ife] at k
    rw [ex_ife]
    exact Su.ok (wp_ok c r).t t k fun z s' t' k' => by
      cases z with
      | true => exact wxs_ok a r Q s' t' k'
      | false => exact wxs_ok b r Q s' t' k'
  | .for_ tg kd es b, r, Q, s, t, k => by
    rw [wx_for] at k
    rw [ex_for]
    exact Su.ok (wps_ok es r) t k fun ds s' t' k' => opt_ok k' fun xs k => Ok.fin (Q' := Q) (for_ok (w := wfT G wn tg b) (fun d {r r'} s h => by
        unfold foT
        intro o q
        obtain ⟨r1, e1, e2⟩ := Option.bind_eq_some_iff.mp q
        obtain ⟨r2, e3, h'⟩ := bindT_le tg d h e1
        rw [e3, Option.bind_some]
        exact exs_le b s h' o e2) (fun x r Q s t k => by
        unfold foT
        exact opt_ok k fun r' k => wxs_ok b r' Q s t k) xs r s' t' k)
  | .whl c b, r, Q, s, t, k => by
    rw [wx_whl] at k
    rw [ex_whl]
    refine Ok.fin (Q' := Q) (whl_ok (c := fun r => (wp G c r).t) (w := fun r Q => wxs G wn b r Q) (fun {r r'} s h => ?_) (fun r K Q s t k hk => ?_) wn r s t k)
    · unfold whT
      intro o q
      obtain ⟨p, e1, e2⟩ := Option.bind_eq_some_iff.mp q
      rw [(ev_le c h).t s p e1, Option.bind_some]
      split at e2
      · rename_i hp
        rw [if_pos hp]
        obtain ⟨x, e3, e4⟩ := Option.map_eq_some_iff.mp e2
        obtain ⟨x', e5, q'⟩ := exs_le b p.2 h x e3
        cases e4
        rw [e5]
        exact ⟨_, rfl, rfl, q'⟩
      · rename_i hp
        rw [if_neg hp]
        cases e2
        exact ⟨_, rfl, rfl, h, rfl⟩
    · obtain ⟨z, s1, e1, t1, k1⟩ := (wp_ok c r).t K s t k
      unfold whT
      rw [e1, Option.bind_some]
      cases z with
      | true =>
        rw [if_pos rfl]
        obtain ⟨x, e2, q⟩ := wxs_ok b r Q s1 t1 (hk k1)
        left
        exact ⟨x, by rw [e2]; rfl, q⟩
      | false =>
        right
        exact ⟨s1, rfl, t1, k1⟩
  | .brk, r, Q, s, t, k => by
    rw [wx_brk] at k
    rw [ex_brk]
    exact ⟨_, rfl, t, up_of k⟩
  | .cnt, r, Q, s, t, k => by
    rw [wx_cnt] at k
    rw [ex_cnt]
    exact ⟨_, rfl, t, up_of k⟩
  | .pas, r, Q, s, t, k => by
    rw [wx_pas] at k
    rw [ex_pas]
    exact Ok.nx t k
theorem wxs_ok : ∀ (xs : List S) (r : Env) (Q : Po4) (s : T), TOk s → wxs G wn xs r Q → Ok (exs G wn xs r s) Q
  | [], r, Q, s, t, k => by
    rw [wxs_nil] at k
    rw [exs_nil]
    exact Ok.nx t k
  | x :: xs, r, Q, s, t, k => by
    rw [wxs_cons] at k
    rw [exs_cons]
    obtain ⟨o, e, q⟩ := wx_ok x r _ s t k
    unfold seqR
    rw [e, Option.bind_some]
    cases o with
    | nx r1 s1 =>
      obtain ⟨t1, r0, l, k0⟩ := q
      exact Ok.le (exs_le xs s1 l) (wxs_ok xs r0 Q s1 t1 k0)
    | rt d s1 => exact ⟨_, rfl, q⟩
    | bk r1 s1 => exact ⟨_, rfl, q⟩
    | ct r1 s1 => exact ⟨_, rfl, q⟩
end
/-- what a def's body must do -/
def ends (K : D → Prop) : Po4 := ⟨fun _ => K .non, K, fun _ => False, fun _ => False⟩
theorem out_ok {xs : List S} {r : Env} {K : D → Prop} {s : T} (t : TOk s) (h : wxs G wn xs r (ends K)) : ∃ d s', out (exs G wn xs r s) = some (d, s') ∧ TOk s' ∧ K d := by
  obtain ⟨o, e, q⟩ := wxs_ok xs r _ s t h
  rw [e]
  cases o with
  | nx r1 s1 => obtain ⟨t1, _, _, k⟩ := q; exact ⟨_, _, rfl, t1, k⟩
  | rt d s1 => exact ⟨_, _, rfl, q.1, q.2⟩
  | bk r1 s1 => obtain ⟨_, _, _, k⟩ := q; exact k.elim
  | ct r1 s1 => obtain ⟨_, _, _, k⟩ := q; exact k.elim
end
/-- a call of a def of the table -/
theorem cl_def {B : Tb} {k f : Nat} {ds : List D} {K : D → Prop} {d : Df} (hp : B.pr f = none) (hd : B.ds f = some d) (hl : ds.length = d.np) (h : wxs (B.at k) B.wn d.body (ds.map (fun x => some (false, x)) ++ List.replicate d.nl none) (ends K)) : Cl (B.at (k + 1)) f ds K := fun s t => by
  show ∃ x s', run B.pr B.ds B.wn (k + 1) f ds s = some (x, s') ∧ _
  rw [run, hp]
  dsimp only
  rw [hd, Option.bind_some, if_pos hl]
  exact out_ok t h
/-- a draw -/
theorem cl_draw {B : Tb} {k f : Nat} {m : Int} {K : D → Prop} (hp : B.pr f = some pDraw) (h0 : 0 < m) (h1 : m < 1073741824) (h : ∀ d : Int, 0 ≤ d → d < m → K (.int d)) : Cl (B.at (k + 1)) f [.box, .int m] K := fun s t => by
  obtain ⟨d, s', e, a, b, t'⟩ := drD_ok t h0 h1
  refine ⟨.int d, s', ?_, t', h d a b⟩
  show run B.pr B.ds B.wn (k + 1) f [.box, .int m] s = _
  rw [run, hp]
  show (drD s m).map _ = _
  rw [e]
  rfl
end Ip

/-! PuX: small lemmas for the conditions. -/
namespace Ip
/-- one by one -/
inductive All2 {α β : Type} (P : α → β → Prop) : List α → List β → Prop
  | nil : All2 P [] []
  | cons {a : α} {b : β} {as : List α} {bs : List β} : P a b → All2 P as bs → All2 P (a :: as) (b :: bs)
theorem All2.len {α β : Type} {P : α → β → Prop} {as : List α} {bs : List β} (h : All2 P as bs) : as.length = bs.length := by
  induction h with
  | nil => rfl
  | cons _ _ ih => rw [List.length_cons, List.length_cons, ih]
section
variable {r : Env} {i : Nat} {d : D} {w b : Bool} {x : Option (Bool × D)}
theorem evV_0 : evV (some (false, d) :: r) 0 = some d := id rfl
theorem evV_s : evV (x :: r) (i + 1) = evV r i := by
  unfold evV
  rw [List.getElem?_cons_succ]
theorem evL_0 : evL (some (w, d) :: r) 0 = some d := id rfl
theorem evL_s : evL (x :: r) (i + 1) = evL r i := by
  unfold evL
  rw [List.getElem?_cons_succ]
theorem setO_f : setO r i false d = r.set i (some (false, d)) := id rfl
theorem setO_T {ds : List D} : setO r i true (.lst ds) = r.set i (some (true, .lst ds)) := id rfl
theorem setO_l : setO r i w (.lst ds) = r.set i (some (w, .lst ds)) := by
  unfold setO
  simp [isMut]
theorem frz_nil : frz [] r = r := id rfl
theorem frz_cons {is : List Nat} : frz (i :: is) r = frz is (match r[i]? with
    | some (some (true, d)) => r.set i (some (false, d))
    | _ => r) := by
  rw [frz]
  cases r[i]? with
  | none => rfl
  | some x =>
    cases x with
    | none => rfl
    | some p =>
      obtain ⟨w, d⟩ := p
      cases w <;> rfl
theorem ownL_0 {ds : List D} : ownL (some (true, .lst ds) :: r) 0 = some ds := id rfl
theorem ownL_s : ownL (x :: r) (i + 1) = ownL r i := by
  unfold ownL
  rw [List.getElem?_cons_succ]
theorem ownD_0 {kvs : List (D × D)} : ownD (some (true, .dic kvs) :: r) 0 = some kvs := id rfl
theorem ownD_s : ownD (x :: r) (i + 1) = ownD r i := by
  unfold ownD
  rw [List.getElem?_cons_succ]
theorem setO_d {kvs : List (D × D)} : setO r i w (.dic kvs) = r.set i (some (w, .dic kvs)) := by
  unfold setO
  simp [isMut]
theorem pairUp_nil : pairUp [] = some [] := id rfl
theorem pairUp_cons {k v : D} {ds : List D} : pairUp (k :: v :: ds) = (pairUp ds).map fun q => (k, v) :: q := id rfl
theorem dPuts_nil {acc : List (D × D)} : dPuts acc [] = some acc := by rw [dPuts]
theorem bindT_nm : bindT (.nm i) d r = some (r.set i (some (false, d))) := by rw [bindT]
theorem bindT_tp {ts : List Tg} {ds : List D} : bindT (.tp ts) (.tup ds) r = bindTs ts ds r := by rw [bindT]
theorem bindTs_nil : bindTs [] [] r = some r := by rw [bindTs]
theorem bindTs_cons {t : Tg} {ts : List Tg} {ds : List D} : bindTs (t :: ts) (d :: ds) r = (bindT t d r).bind fun r' => bindTs ts ds r' := by rw [bindTs]
theorem bindAll_nil : bindAll [] d r = some r := by rw [bindAll]
theorem bindAll_cons {t : Tg} {ts : List Tg} : bindAll (t :: ts) d r = (bindT t d r).bind fun r' => bindAll ts d r' := by rw [bindAll]
theorem setOs_nil : setOs [] [] r = some r := by rw [setOs]
theorem setOs_cons {is : List (Nat × Bool)} {ds : List D} : setOs ((i, w) :: is) (d :: ds) r = setOs is ds (setO r i w d) := by rw [setOs]
theorem wipeE_nil : wipeE r [] = r := by rw [wipeE]
theorem wipeE_cons {is : List Nat} : wipeE r (i :: is) = (wipeE r is).set i none := by rw [wipeE]
theorem cl_args {d : D} : (fun x : D => some (false, x)) d = some (false, d) := id rfl
theorem rep_0 {α : Type} {a : α} : List.replicate 0 a = [] := id rfl
theorem rep_s {α : Type} {a : α} {n : Nat} : List.replicate (n + 1) a = a :: List.replicate n a := id rfl
theorem truD_bl : truD (.bl b) = some b := id rfl
theorem if_true_eq {p q : Prop} : (if true = true then p else q) = p := id rfl
theorem if_false_eq {p q : Prop} : (if false = true then p else q) = q := id rfl
/-! ### comprehensions -/
variable {f : D → (Option D → Prop) → Prop} {K : List D → Prop}
theorem wlc_of {h : D → Option D} : ∀ {xs : List D} {K : List D → Prop}, (∀ x ∈ xs, ∀ K' : Option D → Prop, K' (h x) → f x K') → K (xs.filterMap h) → wlc f xs K
  | [], K, _, k => k
  | x :: xs, K, hf, k => by
    refine hf x List.mem_cons_self _ (wlc_of (h := h) (fun y hy => hf y (List.mem_cons_of_mem _ hy)) ?_)
    cases e : h x with
    | none => rw [List.filterMap_cons_none e] at k; exact k
    | some d => rw [List.filterMap_cons_some e] at k; exact k
/-- over data of a kind: every turn gives something -/
theorem wlc_map {α : Type} {en : α → D} (g : α → D) {zs : List α} {K : List D → Prop} (hf : ∀ z ∈ zs, ∀ K' : Option D → Prop, K' (some (g z)) → f (en z) K') (k : K (zs.map g)) : wlc f (zs.map en) K := by
  induction zs generalizing K with
  | nil => exact k
  | cons z zs ih => exact hf z List.mem_cons_self _ (ih (fun y hy => hf y (List.mem_cons_of_mem _ hy)) k)
/-- those that pass -/
theorem wlc_filter {α : Type} {en : α → D} (p : α → Bool) (g : α → D) {zs : List α} {K : List D → Prop} (hf : ∀ z ∈ zs, ∀ K' : Option D → Prop, K' (if p z = true then some (g z) else none) → f (en z) K') (k : K ((zs.filter p).map g)) : wlc f (zs.map en) K := by
  induction zs generalizing K with
  | nil => exact k
  | cons z zs ih =>
    refine hf z List.mem_cons_self _ (ih (fun y hy => hf y (List.mem_cons_of_mem _ hy)) ?_)
    cases e : p z with
    | true => rw [List.filter_cons_of_pos e] at k; exact k
    | false => rw [List.filter_cons_of_neg (by simp [e])] at k; exact k
/-- a comprehension that draws: each turn gives something of a kind -/
theorem wlc_rel {α : Type} {en : α → D} {P : α → D → Prop} {zs : List α} {K : List D → Prop} (hf : ∀ z ∈ zs, ∀ K' : Option D → Prop, (∀ d, P z d → K' (some d)) → f (en z) K') (k : ∀ ds : List D, All2 P zs ds → K ds) : wlc f (zs.map en) K := by
  induction zs generalizing K with
  | nil => exact k [] .nil
  | cons z zs ih => exact hf z List.mem_cons_self _ fun d hd => ih (fun y hy => hf y (List.mem_cons_of_mem _ hy)) fun ds h => k (d :: ds) (.cons hd h)
theorem wlc_relD {P : D → D → Prop} {zs : List D} {K : List D → Prop} (hf : ∀ z ∈ zs, ∀ K' : Option D → Prop, (∀ d, P z d → K' (some d)) → f z K') (k : ∀ ds : List D, All2 P zs ds → K ds) : wlc f zs K := by
  have := wlc_rel (en := id) (f := f) (K := K) (zs := zs) hf k
  rw [List.map_id] at this
  exact this
/-! ### loops -/
variable {lf : D → Env → Po4 → Prop} {Q : Po4}
/-- by what holds ahead of each turn, by the rest -/
theorem wfor_inv {α : Type} {en : α → D} (I : List α → Env → Prop) (mono : ∀ x r Q Q', (∀ r, Q.nx r → Q'.nx r) → (∀ d, Q.rt d → Q'.rt d) → (∀ r, Q.bk r → Q'.bk r) → (∀ r, Q.ct r → Q'.ct r) → lf x r Q → lf x r Q') {zs : List α} {r : Env} (h0 : I zs r)
    (hs : ∀ z zs r, I (z :: zs) r → lf (en z) r ⟨up (I zs), Q.rt, Q.nx, up (I zs)⟩) (he : ∀ r, I [] r → Q.nx r) : wfor lf Q (zs.map en) r := by
  induction zs generalizing r with
  | nil => exact he r h0
  | cons z zs ih =>
    refine mono _ _ ⟨up (I zs), Q.rt, Q.nx, up (I zs)⟩ _ ?_ (fun _ h => h) (fun _ h => h) ?_ (hs z zs r h0)
    · rintro r' ⟨r0, l, h⟩
      exact ⟨r0, l, ih h⟩
    · rintro r' ⟨r0, l, h⟩
      exact ⟨r0, l, ih h⟩
end
section
variable {G : Gl} {wn : Nat}
structure Po4.le (Q Q' : Po4) : Prop where
  nx : ∀ r, Q.nx r → Q'.nx r
  rt : ∀ d, Q.rt d → Q'.rt d
  bk : ∀ r, Q.bk r → Q'.bk r
  ct : ∀ r, Q.ct r → Q'.ct r
theorem Po4.le.refl {Q : Po4} : Q.le Q := ⟨fun _ h => h, fun _ h => h, fun _ h => h, fun _ h => h⟩
def Mo {α : Type} (w : (α → Prop) → Prop) : Prop := ∀ {K K' : α → Prop}, (∀ a, K a → K' a) → w K → w K'
structure Mo3 (w : Wp) : Prop where
  v : Mo w.v
  o : Mo w.o
  t : Mo w.t
theorem Mo3.mk' {f : (D → Prop) → Prop} (h : Mo f) : Mo3 (mkW f) := ⟨h, h, fun k => h fun _ => opt_mono k⟩
theorem wlc_mono {f : D → (Option D → Prop) → Prop} (h : ∀ x, Mo (f x)) : ∀ xs : List D, Mo (wlc f xs)
  | [] => fun k => k _
  | x :: xs => fun k => h x fun _ => wlc_mono h xs fun _ => k _
theorem wdc_mono {f : D → (Option (D × D) → Prop) → Prop} (h : ∀ x, Mo (f x)) : ∀ (xs : List D) (acc : List (D × D)), Mo (wdc f xs acc)
  | [], acc => fun k => k _
  | x :: xs, acc => fun k => h x fun o => by
    cases o with
    | none => exact wdc_mono h xs acc k
    | some kv => exact fun q => ⟨q.1, wdc_mono h xs _ k q.2⟩
theorem ite_mono {k : Bool} {p q p' q' : Prop} (h1 : p → p') (h2 : q → q') : (if k = true then p else q) → (if k = true then p' else q') := by
  cases k with
  | true => exact h1
  | false => exact h2
mutual
theorem wp_mono : ∀ (e : E) (r : Env), Mo3 (wp G e r)
  | .bad, r => by rw [wp_bad]; exact .mk' fun _ h => h
  | .loc i, r => by rw [wp_loc]; exact ⟨fun k => opt_mono k, fun k => opt_mono k, fun k => opt_mono fun _ => opt_mono k⟩
  | .con d, r => by rw [wp_con]; exact .mk' fun k => k _
  | .glo d, r => by rw [wp_glo]; exact .mk' fun k => k _
  | .bin o a b, r => by rw [wp_bin]; exact .mk' fun k => (wp_mono a r).o fun _ => (wp_mono b r).o fun _ => opt_mono k
  | .neg a, r => by rw [wp_neg]; exact .mk' fun k => (wp_mono a r).o fun _ => opt_mono fun _ => k _
  | .not_ a, r => by rw [wp_not]; exact ⟨fun k => (wp_mono a r).o fun _ => opt_mono fun _ => k _, fun k => (wp_mono a r).o fun _ => opt_mono fun _ => k _, fun k => (wp_mono a r).t fun _ => k _⟩
  | .and_ a b, r => by
    rw [wp_and]
    exact ⟨fun k => (wp_mono a r).v fun _ => opt_mono fun _ => ite_mono ((wp_mono b r).v k) (k _), fun k => (wp_mono a r).v fun _ => opt_mono fun _ => ite_mono ((wp_mono b r).v k) (k _), fun k => (wp_mono a r).t fun _ => ite_mono ((wp_mono b r).t k) (k _)⟩
  | .or_ a b, r => by
    rw [wp_or]
    exact ⟨fun k => (wp_mono a r).v fun _ => opt_mono fun _ => ite_mono (k _) ((wp_mono b r).v k), fun k => (wp_mono a r).v fun _ => opt_mono fun _ => ite_mono (k _) ((wp_mono b r).v k), fun k => (wp_mono a r).t fun _ => ite_mono (k _) ((wp_mono b r).t k)⟩
  | .ite c a b, r => by
    rw [wp_ite]
    exact ⟨fun k => (wp_mono c r).t fun _ => ite_mono ((wp_mono a r).v k) ((wp_mono b r).v k), fun k => (wp_mono c r).t fun _ => ite_mono ((wp_mono a r).v k) ((wp_mono b r).v k), fun k => (wp_mono c r).t fun _ => ite_mono ((wp_mono a r).t k) ((wp_mono b r).t k)⟩
  | .cmp o a b, r => by rw [wp_cmp]; exact .mk' fun k => (wp_mono a r).o fun _ => (wp_mono b r).o fun _ => opt_mono fun _ => k _
  | .chain o o' a b c, r => by rw [wp_chain]; exact .mk' fun k => (wp_mono a r).o fun _ => (wp_mono b r).o fun _ => opt_mono fun _ => ite_mono ((wp_mono c r).o fun _ => opt_mono fun _ => k _) (k _)
  | .tup es, r => by rw [wp_tup]; exact .mk' fun k => wps_mono es r fun _ => k _
  | .lst es, r => by rw [wp_lst]; exact .mk' fun k => wps_mono es r fun _ => k _
  | .call f es, r => by rw [wp_call]; exact .mk' fun k => wps_mono es r fun _ => Cl.mono k
  | .bi b es, r => by rw [wp_bi]; exact .mk' fun k => wpos_mono es r fun _ => opt_mono k
  | .isi t a, r => by rw [wp_isi]; exact .mk' fun k => (wp_mono a r).o fun _ => opt_mono fun _ => k _
  | .me m a es, r => by rw [wp_me]; exact .mk' fun k => (wp_mono a r).o fun _ => wps_mono es r fun _ => opt_mono k
  | .sub a i, r => by rw [wp_sub]; exact .mk' fun k => (wp_mono a r).o fun _ => (wp_mono i r).o fun _ => opt_mono k
  | .sli a lo hi, r => by rw [wp_sli]; exact .mk' fun k => (wp_mono a r).o fun _ => wpo_mono lo r fun _ => wpo_mono hi r fun _ => opt_mono k
  | .rev a, r => by
    rw [wp_rev]
    exact .mk' fun k => (wp_mono a r).o fun _ => ite_mono id (opt_mono k)
  | .lc own t k es cs e, r => by
    rw [wp_lc]
    exact .mk' fun k => wpos_mono es r fun _ => opt_mono fun xs => wlc_mono (f := wlT G own t cs e r) (fun x _ _ k => opt_mono fun r' => wpts_mono cs r' fun _ => ite_mono ((wp_mono e r').v fun _ => k _) (k _)) xs fun _ => k _
  | .dct es, r => by rw [wp_dct]; exact .mk' fun k => wps_mono es r fun _ => opt_mono fun _ => opt_mono fun _ => k _
  | .dc own t k es cs ek e, r => by
    rw [wp_dc]
    exact .mk' fun k => wpos_mono es r fun _ => opt_mono fun xs => wdc_mono (f := wdT G own t cs ek e r) (fun x _ _ k => opt_mono fun r' => wpts_mono cs r' fun _ => ite_mono ((wp_mono ek r').v fun _ => (wp_mono e r').v fun _ => k _) (k _)) xs [] fun _ => k _
theorem wps_mono : ∀ (es : List E) (r : Env), Mo (wps G es r)
  | [], r => fun k h => by rw [wps_nil] at h ⊢; exact k _ h
  | e :: es, r => fun k h => by rw [wps_cons] at h ⊢; exact (wp_mono e r).v (fun _ => wps_mono es r fun _ => k _) h
theorem wpos_mono : ∀ (es : List E) (r : Env), Mo (wpos G es r)
  | [], r => fun k h => by rw [wpos_nil] at h ⊢; exact k _ h
  | e :: es, r => fun k h => by rw [wpos_cons] at h ⊢; exact (wp_mono e r).o (fun _ => wpos_mono es r fun _ => k _) h
theorem wpts_mono : ∀ (es : List E) (r : Env), Mo (wpts G es r)
  | [], r => fun k h => by rw [wpts_nil] at h ⊢; exact k _ h
  | e :: es, r => fun k h => by rw [wpts_cons] at h ⊢; exact (wp_mono e r).t (fun _ => ite_mono (wpts_mono es r k) (k _)) h
theorem wpo_mono : ∀ (e : Option E) (r : Env), Mo (wpo G e r)
  | none, r => fun k h => by rw [wpo_none] at h ⊢; exact k _ h
  | some e, r => fun k h => by rw [wpo_some] at h ⊢; exact (wp_mono e r).o (fun _ => opt_mono fun _ => k _) h
end
theorem up_mono {J J' : Env → Prop} (h : ∀ r, J r → J' r) {r : Env} : up J r → up J' r := fun ⟨r0, l, j⟩ => ⟨r0, l, h r0 j⟩
theorem wfor_mono {f : D → Env → Po4 → Prop} (h : ∀ x r Q Q', Po4.le Q Q' → f x r Q → f x r Q') {Q Q' : Po4} (q : Q.le Q') : ∀ (xs : List D) (r : Env), wfor f Q xs r → wfor f Q' xs r
  | [], r, k => q.nx r k
  | x :: xs, r, k => h x r ⟨up fun r => wfor f Q xs r, Q.rt, Q.nx, up fun r => wfor f Q xs r⟩ _ ⟨fun _ => up_mono fun r => wfor_mono h q xs r, q.rt, q.nx, fun _ => up_mono fun r => wfor_mono h q xs r⟩ k
theorem wwhl_mono {c : Env → (Bool → Prop) → Prop} {f : Env → Po4 → Prop} (hc : ∀ r, Mo (c r)) (h : ∀ r Q Q', Po4.le Q Q' → f r Q → f r Q') {Q Q' : Po4} (q : Q.le Q') : ∀ (n : Nat) (r : Env), wwhl c f Q n r → wwhl c f Q' n r
  | 0, r, k => k.elim
  | n + 1, r, k => hc r (fun b => ite_mono (h r ⟨up fun r => wwhl c f Q n r, Q.rt, Q.nx, up fun r => wwhl c f Q n r⟩ _ ⟨fun _ => up_mono fun r => wwhl_mono hc h q n r, q.rt, q.nx, fun _ => up_mono fun r => wwhl_mono hc h q n r⟩) (q.nx r)) k
mutual
theorem wx_mono : ∀ (x : S) (r : Env) {Q Q' : Po4}, Q.le Q' → wx G wn x r Q → wx G wn x r Q'
  | .bad, r, Q, Q', q, k => by rw [wx_bad] at k; exact k.elim
  | .fz is x, r, Q, Q', q, k => by rw [wx_fz] at k ⊢; exact wx_mono x _ q k
  | .set i w e, r, Q, Q', q, k => by rw [wx_set] at k ⊢; exact (wp_mono e r).v (fun _ => q.nx _) k
  | .par is es, r, Q, Q', q, k => by rw [wx_par] at k ⊢; exact wps_mono es r (fun _ => opt_mono q.nx) k
  | .tgt ts e, r, Q, Q', q, k => by rw [wx_tgt] at k ⊢; exact (wp_mono e r).v (fun _ => opt_mono q.nx) k
  | .aug i o e, r, Q, Q', q, k => by rw [wx_aug] at k ⊢; exact opt_mono (fun _ => (wp_mono e r).o fun _ => opt_mono fun _ => opt_mono fun _ => q.nx _) k
  | .app i e, r, Q, Q', q, k => by rw [wx_app] at k ⊢; exact (wp_mono e r).v (fun _ => opt_mono fun _ h => ⟨h.1, q.nx _ h.2⟩) k
  | .ext i e, r, Q, Q', q, k => by rw [wx_ext] at k ⊢; exact (wp_mono e r).v (fun _ => opt_mono fun _ => opt_mono fun _ h => ⟨h.1, q.nx _ h.2⟩) k
  | .pop _ _ _, r, Q, Q', q, k => by rw [wx_pop] at k; exact k.elim
  | .sti i j v, r, Q, Q', q, k => by rw [wx_sti] at k ⊢; exact (wp_mono v r).v (fun _ => (wp_mono j r).o fun _ => opt_mono fun _ => opt_mono fun _ => opt_mono fun _ => q.nx _) k
  | .dput i j v, r, Q, Q', q, k => by rw [wx_dput] at k ⊢; exact (wp_mono v r).v (fun _ => (wp_mono j r).v fun _ => opt_mono fun _ h => ⟨h.1, q.nx _ h.2⟩) k
  | .exp e, r, Q, Q', q, k => by rw [wx_exp] at k ⊢; exact (wp_mono e r).v (fun _ => q.nx _) k
  | .ret e, r, Q, Q', q, k => by rw [wx_ret] at k ⊢; exact (wp_mono e r).v q.rt k
  | .ife c a b, r, Q, Q', q, k => by rw [wx_ife] at k ⊢; exact (wp_mono c r).t (fun _ => ite_mono (wxs_mono a r q) (wxs_mono b r q)) k
  | .for_ t kd es b, r, Q, Q', q, k => by
    rw [wx_for] at k ⊢
    exact wps_mono es r (fun _ => opt_mono fun xs => wfor_mono (f := wfT G wn t b) (fun x r Q Q' q => opt_mono fun r' => wxs_mono b r' q) q xs r) k
  | .whl c b, r, Q, Q', q, k => by
    rw [wx_whl] at k ⊢
    exact wwhl_mono (fun r => (wp_mono c r).t) (fun r Q Q' q => wxs_mono b r q) q wn r k
  | .brk, r, Q, Q', q, k => by rw [wx_brk] at k ⊢; exact q.bk r k
  | .cnt, r, Q, Q', q, k => by rw [wx_cnt] at k ⊢; exact q.ct r k
  | .pas, r, Q, Q', q, k => by rw [wx_pas] at k ⊢; exact q.nx r k
theorem wxs_mono : ∀ (xs : List S) (r : Env) {Q Q' : Po4}, Q.le Q' → wxs G wn xs r Q → wxs G wn xs r Q'
  | [], r, Q, Q', q, k => by rw [wxs_nil] at k ⊢; exact q.nx r k
  | x :: xs, r, Q, Q', q, k => by rw [wxs_cons] at k ⊢; exact wx_mono x r (Q := ⟨fun r => wxs G wn xs r Q, Q.rt, Q.bk, Q.ct⟩) ⟨fun r => wxs_mono xs r q, q.rt, q.bk, q.ct⟩ k
end
/-- a loop by what holds ahead of each turn -/
theorem for_inv {α : Type} {en : α → D} {t : Tg} {b : List S} {Q : Po4} (I : List α → Env → Prop) {zs : List α} {r : Env} (h0 : I zs r)
    (hs : ∀ z zs r, I (z :: zs) r → wfT G wn t b (en z) r ⟨up (I zs), Q.rt, Q.nx, up (I zs)⟩) (he : ∀ r, I [] r → Q.nx r) : wfor (wfT G wn t b) Q (zs.map en) r :=
  wfor_inv (lf := wfT G wn t b) I (fun x r Q Q' h1 h2 h3 h4 => opt_mono fun r' => wxs_mono b r' ⟨h1, h2, h3, h4⟩) h0 hs he
/-- a while loop by what holds ahead of each turn, and a number that falls -/
theorem while_inv {c : E} {b : List S} {Q : Po4} (I : Nat → Env → Prop) {n : Nat} {r : Env} {m : Nat} (hm : m < n) (h0 : I m r)
    (hs : ∀ m r, I m r → (wp G c r).t fun k => if k = true then wxs G wn b r ⟨up fun r => ∃ m', m' < m ∧ I m' r, Q.rt, Q.nx, up fun r => ∃ m', m' < m ∧ I m' r⟩ else Q.nx r) : wwhl (fun r => (wp G c r).t) (fun r Q => wxs G wn b r Q) Q n r := by
  induction n generalizing m r with
  | zero => omega
  | succ n ih =>
    refine (wp_mono c r).t (fun k => ite_mono (wxs_mono b r (Q := ⟨up fun r => ∃ m', m' < m ∧ I m' r, Q.rt, Q.nx, up fun r => ∃ m', m' < m ∧ I m' r⟩) ⟨fun r' h => ?_, fun _ h => h, fun _ h => h, fun r' h => ?_⟩) id) (hs m r h0)
    · obtain ⟨r0, l, m', h1, h2⟩ := h
      exact ⟨r0, l, ih (by omega) h2⟩
    · obtain ⟨r0, l, m', h1, h2⟩ := h
      exact ⟨r0, l, ih (by omega) h2⟩
end
end Ip

/-! PuY: the operations on data of a kind. -/
namespace Ip
theorem le_nil : LeE [] [] := trivial
theorem le_n {a b : Env} {x : Option (Bool × D)} (h : LeE a b) : LeE (none :: a) (x :: b) := h
theorem le_s {a b : Env} {p : Bool × D} (h : LeE a b) : LeE (some p :: a) (some p :: b) := ⟨rfl, h⟩
inductive LeI : Env → Env → Prop
  | nil : LeI [] []
  | n {a b : Env} {x : Option (Bool × D)} : LeI a b → LeI (none :: a) (x :: b)
  | s {a b : Env} {p : Bool × D} : LeI a b → LeI (some p :: a) (some p :: b)
theorem LeI.r {a b : Env} {x : Option (Bool × D)} (h : LeI a b) : LeI (x :: a) (x :: b) := by
  cases x with
  | none => exact .n h
  | some p => exact .s h
theorem LeI.le {a b : Env} (h : LeI a b) : LeE a b := by
  induction h with
  | nil => exact trivial
  | n _ ih => exact ih
  | s _ ih => exact ⟨rfl, ih⟩
theorem wxs_for {α : Type} {G : Gl} {wn : Nat} {t : Tg} {b : List S} {en : α → D} {z : α} {r r' : Env} {Q : Po4} (h : bindT t (en z) r = some r') (k : wxs G wn b r' Q) : wfT G wn t b (en z) r Q := opt_of h k
section
variable {xs ys : List D}
theorem it_lst : itD .seq [.lst xs] = some xs := id rfl
theorem it_tup : itD .seq [.tup xs] = some xs := id rfl
theorem it_zip_tup : itD .zip [.tup xs, .tup ys] = some (List.zipWith (fun x y => .tup [x, y]) xs ys) := id rfl
theorem it_zip_lst : itD .zip [.lst xs, .lst ys] = some (List.zipWith (fun x y => .tup [x, y]) xs ys) := id rfl
theorem it_enum_tup : itD .enum [.tup xs] = some (xs.zipIdx.map fun p => .tup [.int (p.2 : Nat), p.1]) := id rfl
theorem it_enum_lst : itD .enum [.lst xs] = some (xs.zipIdx.map fun p => .tup [.int (p.2 : Nat), p.1]) := id rfl
theorem rng1_map {hi : Int} (h : hi ≤ 1000000) (h' : -1000000 ≤ hi) : itD .rng [.int hi] = some ((List.range hi.toNat).map fun (i : Nat) => D.int (i : Int)) := by
  have sz : szL = 16777216 := rfl
  show (if hi ≤ (szL : Int) ∧ -1000000 ≤ hi then some (rngL 0 hi.toNat) else none) = _
  rw [if_pos ⟨by omega, h'⟩]
  unfold rngL
  congr 1
  apply List.map_congr_left
  intro i _
  rw [Int.zero_add]
theorem rng2_map {lo : Nat} {hi : Int} (h : hi ≤ 1000000) (h' : -1000000 ≤ hi) (hl : lo ≤ 1000000) : itD .rng [.int (lo : Int), .int hi] = some ((List.range' lo (hi - lo).toNat).map fun (i : Nat) => D.int (i : Int)) := by
  have sz : szL = 16777216 := rfl
  show (if hi - (lo : Int) ≤ (szL : Int) ∧ (lo : Int).natAbs ≤ 2 ^ 61 ∧ hi.natAbs ≤ 2 ^ 61 then some (rngL lo (hi - lo).toNat) else none) = _
  rw [if_pos ⟨by omega, by omega, by omega⟩]
  unfold rngL
  congr 1
  rw [List.range'_eq_map_range, List.map_map]
  apply List.map_congr_left
  intro i _
  simp
theorem rngDown_map {n : Nat} (h : n ≤ 1000000) : itD .rng [.int ((n : Int) - 1), .int (-1), .int (-1)] = some ((List.range n).reverse.map fun (i : Nat) => D.int (i : Int)) := by
  have sz : szL = 16777216 := rfl
  show (if (-1 : Int) = -1 ∧ (n : Int) - 1 - (-1) ≤ (szL : Int) ∧ ((n : Int) - 1).natAbs ≤ 2 ^ 61 ∧ (-1 : Int).natAbs ≤ 2 ^ 61 then some (rngCL ((n : Int) - 1) (-1) ((n : Int) - 1 - (-1)).toNat) else none) = _
  rw [if_pos ⟨rfl, by omega, by omega, by omega⟩]
  unfold rngCL
  rw [show ((n : Int) - 1 - (-1)).toNat = n by omega]
  congr 1
  apply List.ext_getElem?
  intro i
  rw [List.getElem?_map, List.getElem?_map]
  by_cases hi : i < n
  · rw [List.getElem?_range hi, List.getElem?_reverse (by simpa using hi), List.length_range, List.getElem?_range (by omega)]
    simp
    omega
  · rw [List.getElem?_eq_none (by simpa using hi), List.getElem?_eq_none (by simpa using hi)]
    rfl
theorem add_tup (h : xs.length + ys.length ≤ szL) : binD .add (.tup xs) (.tup ys) = some (.tup (xs ++ ys)) := by
  show (if xs.length + ys.length ≤ szL then some (D.tup (xs ++ ys)) else none) = _
  rw [if_pos h]
theorem add_lst (h : xs.length + ys.length ≤ szL) : binD .add (.lst xs) (.lst ys) = some (.lst (xs ++ ys)) := by
  show (if xs.length + ys.length ≤ szL then some (D.lst (xs ++ ys)) else none) = _
  rw [if_pos h]
theorem len_tup : biD .len [.tup xs] = some (.int xs.length) := id rfl
theorem len_lst : biD .len [.lst xs] = some (.int xs.length) := id rfl
theorem seqD_lst : seqD (.lst xs) = some xs := id rfl
theorem seqD_tup : seqD (.tup xs) = some xs := id rfl
theorem tuple_lst : biD .tuple [.lst xs] = some (.tup xs) := id rfl
theorem tuple_tup : biD .tuple [.tup xs] = some (.tup xs) := id rfl
theorem list_lst : biD .list [.lst xs] = some (.lst xs) := id rfl
theorem list_tup : biD .list [.tup xs] = some (.lst xs) := id rfl
theorem rev_tup : revD (.tup xs) = some (.tup xs.reverse) := id rfl
theorem rev_lst : revD (.lst xs) = some (.lst xs.reverse) := id rfl
theorem is_non {x : D} : cmpD .is x .non = some (isNon x) := id rfl
theorem isNot_non {x : D} : cmpD .isNot x .non = some (!isNon x) := id rfl
theorem isNon_non : isNon .non = true := id rfl
theorem isNon_int {i : Int} : isNon (.int i) = false := id rfl
theorem isNon_tup : isNon (.tup xs) = false := id rfl
theorem isNon_lst : isNon (.lst xs) = false := id rfl
theorem isNon_str {s : List Nat} : isNon (.str s) = false := id rfl
theorem isNon_bl {b : Bool} : isNon (.bl b) = false := id rfl
theorem cmp_in {x c : D} : cmpD .in_ x c = inD x c := by cases x <;> cases c <;> rfl
theorem cmp_notIn {x c : D} : cmpD .notIn x c = (inD x c).map not := by cases x <;> cases c <;> rfl
theorem in_lst {x : D} (h : pl 60 x = true) (h' : xs.all (pl 59) = true) : cmpD .in_ x (.lst xs) = some (xs.any fun y => eqD y x) := by
  rw [cmp_in]
  unfold inD
  dsimp only
  rw [h, h']
  rfl
theorem in_tup {x : D} (h : pl 60 x = true) (h' : xs.all (pl 59) = true) : cmpD .in_ x (.tup xs) = some (xs.any fun y => eqD y x) := by
  rw [cmp_in]
  unfold inD
  dsimp only
  rw [h, h']
  rfl
theorem mul_int {i j : Int} (h : mulOk i j = true) : binD .mul (.int i) (.int j) = some (.int (i * j)) := by
  show (if mulOk i j = true then some (D.int (i * j)) else none) = _
  rw [if_pos h]
/-- the last one -/
theorem sub_last_tup {x : D} : subD (.tup (xs ++ [x])) (.int (-1)) = some x := by
  show (ixP (xs ++ [x]).length (-1)).bind _ = _
  unfold ixP
  rw [if_neg (by omega), if_pos (by simp; omega)]
  have e : ((-1 : Int) + ((xs ++ [x]).length : Int)).toNat = xs.length := by simp; omega
  rw [Option.bind_some, e]
  simp
theorem sub_last_lst {x : D} : subD (.lst (xs ++ [x])) (.int (-1)) = some x := sub_last_tup (xs := xs)
theorem isi_tup {n : Nat} (h : pl 60 (.tup xs) = true) : isiD .tuple (.tup xs) = some true := by
  unfold isiD
  rw [if_pos h]
  rfl
theorem isi_of {t : Ty} {d : D} (h : pl 60 d = true) : isiD t d = some (isiB t d) := by
  unfold isiD
  rw [if_pos h]
theorem cmp_eq_pl {x y : D} (h1 : pl 60 x = true) (h2 : pl 60 y = true) : cmpD .eq x y = some (eqD x y) := by
  show (if pl 60 x && pl 60 y then some (eqD x y) else none) = _
  rw [h1, h2]
  rfl
theorem cmp_ne_pl {x y : D} (h1 : pl 60 x = true) (h2 : pl 60 y = true) : cmpD .ne x y = some (!eqD x y) := by
  show (if pl 60 x && pl 60 y then some (!eqD x y) else none) = _
  rw [h1, h2]
  rfl
theorem ints_map {α : Type} (f : α → Int) : ∀ l : List α, intsOf (l.map fun x => .int (f x)) = some (l.map f)
  | [] => rfl
  | x :: l => by
    show (intsOf (l.map _)).map _ = _
    rw [ints_map f l]
    rfl
theorem sum_map {α : Type} (f : α → Int) (l : List α) : biD .sum [.lst (l.map fun x => .int (f x))] = some (.int (l.map f).sum) := by
  show (intsOf _).map _ = _
  rw [ints_map f l]
  rfl
theorem sub_ints {l : List Int} {i : Nat} (h : i < l.length) : subD (.tup (l.map .int)) (.int (i : Int)) = some (.int (l.getD i 0)) := by
  refine sub_tup ?_
  rw [List.getElem?_map, List.getElem?_eq_getElem h, List.getD_eq_getElem?_getD, List.getElem?_eq_getElem h]
  rfl
theorem sub_map {α : Type} {en : α → D} {l : List α} {i : Nat} {x : α} (h : l[i]? = some x) : subD (.tup (l.map en)) (.int (i : Int)) = some (en x) := sub_tup (by rw [List.getElem?_map, h]; rfl)
theorem sub_mapL {α : Type} {en : α → D} {l : List α} {i : Nat} {x : α} (h : l[i]? = some x) : subD (.lst (l.map en)) (.int (i : Int)) = some (en x) := sub_lst (by rw [List.getElem?_map, h]; rfl)
theorem zip_map {α β : Type} {f : α → D} {g : β → D} : ∀ (l : List α) (l' : List β), List.zipWith (fun x y => D.tup [x, y]) (l.map f) (l'.map g) = (l.zip l').map fun q => .tup [f q.1, g q.2]
  | [], _ => rfl
  | _ :: _, [] => rfl
  | x :: l, y :: l' => by
    rw [List.map_cons, List.map_cons, List.zipWith_cons_cons, zip_map l l', List.zip_cons_cons, List.map_cons]
/-! ### tests of all, of any -/
variable {f : D → (Option D → Prop) → Prop} {K : D → Prop}
theorem wlc_all {α : Type} {en : α → D} (p : α → Bool) {zs : List α} (hf : ∀ z ∈ zs, ∀ K' : Option D → Prop, K' (some (.bl (p z))) → f (en z) K') (k : K (.bl (zs.all p))) : wlc f (zs.map en) (fun ds => opt (biD .all [.lst ds]) K) :=
  wlc_map (fun z => .bl (p z)) hf (by rw [bi_all p zs]; exact k)
theorem wlc_any {α : Type} {en : α → D} (p : α → Bool) {zs : List α} (hf : ∀ z ∈ zs, ∀ K' : Option D → Prop, K' (some (.bl (p z))) → f (en z) K') (k : K (.bl (zs.any p))) : wlc f (zs.map en) (fun ds => opt (biD .any [.lst ds]) K) :=
  wlc_map (fun z => .bl (p z)) hf (by rw [bi_any p zs]; exact k)
theorem wlc_allD (p : D → Bool) {zs : List D} (hf : ∀ z ∈ zs, ∀ K' : Option D → Prop, K' (some (.bl (p z))) → f z K') (k : K (.bl (zs.all p))) : wlc f zs (fun ds => opt (biD .all [.lst ds]) K) := by
  have := wlc_all (en := id) (f := f) (K := K) p hf k
  rw [List.map_id] at this
  exact this
theorem wlc_anyD (p : D → Bool) {zs : List D} (hf : ∀ z ∈ zs, ∀ K' : Option D → Prop, K' (some (.bl (p z))) → f z K') (k : K (.bl (zs.any p))) : wlc f zs (fun ds => opt (biD .any [.lst ds]) K) := by
  have := wlc_any (en := id) (f := f) (K := K) p hf k
  rw [List.map_id] at this
  exact this
theorem wlc_mapD (g : D → D) {zs : List D} {K : List D → Prop} (hf : ∀ z ∈ zs, ∀ K' : Option D → Prop, K' (some (g z)) → f z K') (k : K (zs.map g)) : wlc f zs K := by
  have := wlc_map (en := id) (f := f) (K := K) g hf k
  rw [List.map_id] at this
  exact this
/-- a loop that looks whether all are so -/
theorem for_chk {G : Gl} {wn : Nat} {t : Tg} {b : List S} {Q : Po4} {α : Type} {en : α → D} (p : α → Bool) {zs : List α} {R : Env} (hs : ∀ z ∈ zs, ∀ Q' : Po4, (p z = true → ∀ r', LeE R r' → Q'.nx r') → (p z = false → Q'.rt (.bl false)) → wfT G wn t b (en z) R Q') (h1 : zs.all p = true → Q.nx R) (h0 : zs.all p = false → Q.rt (.bl false)) : wfor (wfT G wn t b) Q (zs.map en) R := by
  refine for_inv (fun rest r => r = R ∧ (∀ z ∈ rest, z ∈ zs) ∧ rest.all p = zs.all p) ⟨rfl, fun _ h => h, rfl⟩ ?_ ?_
  · rintro z rest r ⟨rfl, h2, h3⟩
    rw [List.all_cons] at h3
    refine hs z (h2 z List.mem_cons_self) _ (fun hp r' l => ⟨r, l, rfl, fun y hy => h2 y (List.mem_cons_of_mem _ hy), ?_⟩) fun hp => ?_
    · rw [hp, Bool.true_and] at h3
      exact h3
    · rw [hp, Bool.false_and] at h3
      exact h0 h3.symm
  · rintro r ⟨rfl, _, h3⟩
    exact h1 (by rw [← h3]; rfl)
theorem for_chkD {G : Gl} {wn : Nat} {t : Tg} {b : List S} {Q : Po4} (p : D → Bool) {zs : List D} {R : Env} (hs : ∀ z ∈ zs, ∀ Q' : Po4, (p z = true → ∀ r', LeE R r' → Q'.nx r') → (p z = false → Q'.rt (.bl false)) → wfT G wn t b z R Q') (h1 : zs.all p = true → Q.nx R) (h0 : zs.all p = false → Q.rt (.bl false)) : wfor (wfT G wn t b) Q zs R := by
  have := for_chk (en := id) (G := G) (wn := wn) (t := t) (b := b) p hs h1 h0
  rw [List.map_id] at this
  exact this
/-! ### all by place -/
theorem all_range {α : Type} (p : α → Bool) (d : α) : ∀ l : List α, ((List.range l.length).all fun i => p (l.getD i d)) = l.all p
  | [] => rfl
  | x :: l => by
    rw [List.length_cons, List.range_succ_eq_map, List.all_cons, List.all_map, List.all_cons, ← all_range p d l]
    rfl
theorem all_zipIdx {α : Type} (p : α → Nat → Bool) (d : α) : ∀ (l : List α) (j : Nat), ((l.zipIdx j).all fun q => p q.1 q.2) = ((List.range l.length).all fun i => p (l.getD i d) (i + j))
  | [], _ => rfl
  | x :: l, j => by
    rw [List.zipIdx_cons, List.all_cons, all_zipIdx p d l (j + 1), List.length_cons, List.range_succ_eq_map, List.all_cons, List.all_map]
    simp only [List.getD_cons_zero, Nat.zero_add]
    congr 2
    funext i
    simp only [Function.comp, List.getD_cons_succ]
    rw [show i + (j + 1) = i.succ + j by omega]
end
end Ip

/-! PuZ: what holds with less known slots holds with more. -/
namespace Ip
section
variable {G : Gl} {wn : Nat}
def Ml {α : Type} (w w' : (α → Prop) → Prop) : Prop := ∀ {K : α → Prop}, w K → w' K
structure Ml3 (w w' : Wp) : Prop where
  v : Ml w.v w'.v
  o : Ml w.o w'.o
  t : Ml w.t w'.t
theorem Ml3.mk' {f g : (D → Prop) → Prop} (h : Ml f g) : Ml3 (mkW f) (mkW g) := ⟨h, h, fun k => h k⟩
theorem opt_le {α : Type} {o o' : Option α} {K : α → Prop} (h : ∀ a, o = some a → o' = some a) (k : opt o K) : opt o' K := by
  cases o with
  | none => exact k.elim
  | some a => rw [h a rfl]; exact k
theorem wlc_le {f g : D → (Option D → Prop) → Prop} (hm : ∀ x, Mo (f x)) (h : ∀ x, Ml (f x) (g x)) : ∀ xs : List D, Ml (wlc f xs) (wlc g xs)
  | [] => fun k => k
  | x :: xs => fun k => h x (hm x (fun _ => wlc_le hm h xs) k)
theorem wdc_le {f g : D → (Option (D × D) → Prop) → Prop} (hm : ∀ x, Mo (f x)) (h : ∀ x, Ml (f x) (g x)) : ∀ (xs : List D) (acc : List (D × D)), Ml (wdc f xs acc) (wdc g xs acc)
  | [], acc => fun k => k
  | x :: xs, acc => fun k => h x (hm x (fun o => by
    cases o with
    | none => exact wdc_le hm h xs acc
    | some kv => exact fun q => ⟨q.1, wdc_le hm h xs _ q.2⟩) k)
theorem ite_le {k : Bool} {p q p' q' : Prop} (h1 : p → p') (h2 : q → q') : (if k = true then p else q) → (if k = true then p' else q') := ite_mono h1 h2
mutual
theorem wp_le : ∀ (e : E) {r r' : Env}, LeE r r' → Ml3 (wp G e r) (wp G e r')
  | .bad, r, r', h => by rw [wp_bad, wp_bad]; exact .mk' fun k => k
  | .loc i, r, r', h => by
    rw [wp_loc, wp_loc]
    exact ⟨fun k => opt_le (fun _ => h.evV) k, fun k => opt_le (fun _ => h.evL) k, fun k => opt_le (fun _ => h.evL) k⟩
  | .con d, r, r', h => by rw [wp_con, wp_con]; exact .mk' fun k => k
  | .glo d, r, r', h => by rw [wp_glo, wp_glo]; exact .mk' fun k => k
  | .bin o a b, r, r', h => by rw [wp_bin, wp_bin]; exact .mk' fun k => (wp_le a h).o ((wp_mono a r).o (fun _ => (wp_le b h).o) k)
  | .neg a, r, r', h => by rw [wp_neg, wp_neg]; exact .mk' fun k => (wp_le a h).o k
  | .not_ a, r, r', h => by rw [wp_not, wp_not]; exact ⟨fun k => (wp_le a h).o k, fun k => (wp_le a h).o k, fun k => (wp_le a h).t k⟩
  | .and_ a b, r, r', h => by
    rw [wp_and, wp_and]
    exact ⟨fun k => (wp_le a h).v ((wp_mono a r).v (fun _ => opt_mono fun _ => ite_le (wp_le b h).v id) k), fun k => (wp_le a h).v ((wp_mono a r).v (fun _ => opt_mono fun _ => ite_le (wp_le b h).v id) k), fun k => (wp_le a h).t ((wp_mono a r).t (fun _ => ite_le (wp_le b h).t id) k)⟩
  | .or_ a b, r, r', h => by
    rw [wp_or, wp_or]
    exact ⟨fun k => (wp_le a h).v ((wp_mono a r).v (fun _ => opt_mono fun _ => ite_le id (wp_le b h).v) k), fun k => (wp_le a h).v ((wp_mono a r).v (fun _ => opt_mono fun _ => ite_le id (wp_le b h).v) k), fun k => (wp_le a h).t ((wp_mono a r).t (fun _ => ite_le id (wp_le b h).t) k)⟩
  | .ite c a b, r, r', h => by
    rw [wp_ite, wp_ite]
    exact ⟨fun k => (wp_le c h).t ((wp_mono c r).t (fun _ => ite_le (wp_le a h).v (wp_le b h).v) k), fun k => (wp_le c h).t ((wp_mono c r).t (fun _ => ite_le (wp_le a h).v (wp_le b h).v) k), fun k => (wp_le c h).t ((wp_mono c r).t (fun _ => ite_le (wp_le a h).t (wp_le b h).t) k)⟩
  | .cmp o a b, r, r', h => by rw [wp_cmp, wp_cmp]; exact .mk' fun k => (wp_le a h).o ((wp_mono a r).o (fun _ => (wp_le b h).o) k)
  | .chain o o' a b c, r, r', h => by
    rw [wp_chain, wp_chain]
    exact .mk' fun k => (wp_le a h).o ((wp_mono a r).o (fun _ k => (wp_le b h).o ((wp_mono b r).o (fun _ => opt_mono fun _ => ite_le (wp_le c h).o id) k)) k)
  | .tup es, r, r', h => by rw [wp_tup, wp_tup]; exact .mk' fun k => wps_le es h k
  | .lst es, r, r', h => by rw [wp_lst, wp_lst]; exact .mk' fun k => wps_le es h k
  | .call f es, r, r', h => by rw [wp_call, wp_call]; exact .mk' fun k => wps_le es h k
  | .bi b es, r, r', h => by rw [wp_bi, wp_bi]; exact .mk' fun k => wpos_le es h k
  | .isi t a, r, r', h => by rw [wp_isi, wp_isi]; exact .mk' fun k => (wp_le a h).o k
  | .me m a es, r, r', h => by rw [wp_me, wp_me]; exact .mk' fun k => (wp_le a h).o ((wp_mono a r).o (fun _ => wps_le es h) k)
  | .sub a i, r, r', h => by rw [wp_sub, wp_sub]; exact .mk' fun k => (wp_le a h).o ((wp_mono a r).o (fun _ => (wp_le i h).o) k)
  | .sli a lo hi, r, r', h => by rw [wp_sli, wp_sli]; exact .mk' fun k => (wp_le a h).o ((wp_mono a r).o (fun _ k => wpo_le lo h (wpo_mono lo r (fun _ => wpo_le hi h) k)) k)
  | .rev a, r, r', h => by rw [wp_rev, wp_rev]; exact .mk' fun k => (wp_le a h).o k
  | .lc own t k es cs e, r, r', h => by
    rw [wp_lc, wp_lc]
    refine .mk' fun {K} k => wpos_le es h (wpos_mono es r (fun _ => opt_mono fun xs => wlc_le (f := wlT G own t cs e r) (g := wlT G own t cs e r') (fun x _ _ k => opt_mono fun r' => wpts_mono cs r' fun _ => ite_mono ((wp_mono e r').v fun _ => k _) (k _)) (fun x {K} k => ?_) xs) k)
    unfold wlT at k ⊢
    cases hb : bindT t x (wipeE r own) with
    | none => rw [hb] at k; exact k.elim
    | some q =>
      obtain ⟨q', e1, hq⟩ := bindT_le t x (h.wipe own) hb
      rw [hb] at k
      rw [e1]
      exact wpts_le cs hq (wpts_mono cs q (fun _ => ite_le (wp_le e hq).v id) k)
  | .dct es, r, r', h => by rw [wp_dct, wp_dct]; exact .mk' fun k => wps_le es h k
  | .dc own t k es cs ek e, r, r', h => by
    rw [wp_dc, wp_dc]
    refine .mk' fun {K} k => wpos_le es h (wpos_mono es r (fun _ => opt_mono fun xs => wdc_le (f := wdT G own t cs ek e r) (g := wdT G own t cs ek e r') (fun x _ _ k => opt_mono fun r' => wpts_mono cs r' fun _ => ite_mono ((wp_mono ek r').v fun _ => (wp_mono e r').v fun _ => k _) (k _)) (fun x {K} k => ?_) xs []) k)
    unfold wdT at k ⊢
    cases hb : bindT t x (wipeE r own) with
    | none => rw [hb] at k; exact k.elim
    | some q =>
      obtain ⟨q', e1, hq⟩ := bindT_le t x (h.wipe own) hb
      rw [hb] at k
      rw [e1]
      exact wpts_le cs hq (wpts_mono cs q (fun _ => ite_le (fun k => (wp_le ek hq).v ((wp_mono ek q).v (fun _ => (wp_le e hq).v) k)) id) k)
theorem wps_le : ∀ (es : List E) {r r' : Env}, LeE r r' → Ml (wps G es r) (wps G es r')
  | [], r, r', h => fun k => by rw [wps_nil] at k ⊢; exact k
  | e :: es, r, r', h => fun k => by rw [wps_cons] at k ⊢; exact (wp_le e h).v ((wp_mono e r).v (fun _ => wps_le es h) k)
theorem wpos_le : ∀ (es : List E) {r r' : Env}, LeE r r' → Ml (wpos G es r) (wpos G es r')
  | [], r, r', h => fun k => by rw [wpos_nil] at k ⊢; exact k
  | e :: es, r, r', h => fun k => by rw [wpos_cons] at k ⊢; exact (wp_le e h).o ((wp_mono e r).o (fun _ => wpos_le es h) k)
theorem wpts_le : ∀ (es : List E) {r r' : Env}, LeE r r' → Ml (wpts G es r) (wpts G es r')
  | [], r, r', h => fun k => by rw [wpts_nil] at k ⊢; exact k
  | e :: es, r, r', h => fun k => by rw [wpts_cons] at k ⊢; exact (wp_le e h).t ((wp_mono e r).t (fun _ => ite_le (wpts_le es h) id) k)
theorem wpo_le : ∀ (e : Option E) {r r' : Env}, LeE r r' → Ml (wpo G e r) (wpo G e r')
  | none, r, r', h => fun k => by rw [wpo_none] at k ⊢; exact k
  | some e, r, r', h => fun k => by rw [wpo_some] at k ⊢; exact (wp_le e h).o k
end
/-- closed under more known slots -/
structure UpC (Q : Po4) : Prop where
  nx : ∀ {r r'}, LeE r r' → Q.nx r → Q.nx r'
  bk : ∀ {r r'}, LeE r r' → Q.bk r → Q.bk r'
  ct : ∀ {r r'}, LeE r r' → Q.ct r → Q.ct r'
theorem wfor_le {f : D → Env → Po4 → Prop} (hm : ∀ x r Q Q', Po4.le Q Q' → f x r Q → f x r Q') (hf : ∀ x {r r'} Q, UpC Q → LeE r r' → f x r Q → f x r' Q) {Q : Po4} (q : UpC Q) : ∀ (xs : List D) {r r' : Env}, LeE r r' → wfor f Q xs r → wfor f Q xs r'
  | [], r, r', h, k => q.nx h k
  | x :: xs, r, r', h, k => hf x ⟨up fun r => wfor f Q xs r, Q.rt, Q.nx, up fun r => wfor f Q xs r⟩ ⟨fun h => up_le h, fun h => q.nx h, fun h => up_le h⟩ h k
theorem wwhl_le {c : Env → (Bool → Prop) → Prop} {f : Env → Po4 → Prop} (hc : ∀ r, Mo (c r)) (hcl : ∀ {r r'}, LeE r r' → Ml (c r) (c r')) (hf : ∀ {r r'} Q, UpC Q → LeE r r' → f r Q → f r' Q) {Q : Po4} (q : UpC Q) : ∀ (n : Nat) {r r' : Env}, LeE r r' → wwhl c f Q n r → wwhl c f Q n r'
  | 0, r, r', h, k => k
  | n + 1, r, r', h, k => hcl h (hc r (fun b => ite_le (hf ⟨up fun r => wwhl c f Q n r, Q.rt, Q.nx, up fun r => wwhl c f Q n r⟩ ⟨fun h => up_le h, fun h => q.nx h, fun h => up_le h⟩ h) (q.nx h)) k)
mutual
theorem wx_le : ∀ (x : S) {r r' : Env} {Q : Po4}, UpC Q → LeE r r' → wx G wn x r Q → wx G wn x r' Q
  | .bad, r, r', Q, q, h, k => by rw [wx_bad] at k; exact k.elim
  | .fz is x, r, r', Q, q, h, k => by rw [wx_fz] at k ⊢; exact wx_le x q (h.frz is) k
  | .set i w e, r, r', Q, q, h, k => by rw [wx_set] at k ⊢; exact (wp_le e h).v ((wp_mono e r).v (fun _ => q.nx (h.set i _)) k)
  | .par is es, r, r', Q, q, h, k => by
    rw [wx_par] at k ⊢
    refine wps_le es h (wps_mono es r (fun ds k => ?_) k)
    cases hb : setOs is ds r with
    | none => rw [hb] at k; exact k.elim
    | some p =>
      obtain ⟨p', e1, hp⟩ := setOs_le is ds h hb
      rw [hb] at k
      rw [e1]
      exact q.nx hp k
  | .tgt ts e, r, r', Q, q, h, k => by
    rw [wx_tgt] at k ⊢
    refine (wp_le e h).v ((wp_mono e r).v (fun d k => ?_) k)
    cases hb : bindAll ts d r with
    | none => rw [hb] at k; exact k.elim
    | some p =>
      obtain ⟨p', e1, hp⟩ := bindAll_le ts d h hb
      rw [hb] at k
      rw [e1]
      exact q.nx hp k
  | .aug i o e, r, r', Q, q, h, k => by
    rw [wx_aug] at k ⊢
    exact opt_le (fun _ => h.evV) (opt_mono (fun _ k => (wp_le e h).o ((wp_mono e r).o (fun _ => opt_mono fun _ => opt_mono fun _ => q.nx (h.set i _)) k)) k)
  | .app i e, r, r', Q, q, h, k => by
    rw [wx_app] at k ⊢
    exact (wp_le e h).v ((wp_mono e r).v (fun _ k => opt_le (fun _ => h.ownL) (opt_mono (fun _ k => ⟨k.1, q.nx (h.set i _) k.2⟩) k)) k)
  | .ext i e, r, r', Q, q, h, k => by
    rw [wx_ext] at k ⊢
    exact (wp_le e h).v ((wp_mono e r).v (fun _ k => opt_le (fun _ => h.ownL) (opt_mono (fun _ => opt_mono fun _ k => ⟨k.1, q.nx (h.set i _) k.2⟩) k)) k)
  | .pop _ _ _, r, r', Q, q, h, k => by rw [wx_pop] at k; exact k.elim
  | .sti i j v, r, r', Q, q, h, k => by
    rw [wx_sti] at k ⊢
    exact (wp_le v h).v ((wp_mono v r).v (fun _ k => (wp_le j h).o ((wp_mono j r).o (fun _ => opt_mono fun _ k => opt_le (fun _ => h.ownL) (opt_mono (fun _ => opt_mono fun _ => q.nx (h.set i _)) k)) k)) k)
  | .dput i j v, r, r', Q, q, h, k => by
    rw [wx_dput] at k ⊢
    exact (wp_le v h).v ((wp_mono v r).v (fun _ k => (wp_le j h).v ((wp_mono j r).v (fun _ k => opt_le (fun _ => h.ownD) (opt_mono (fun _ k => ⟨k.1, q.nx (h.set i _) k.2⟩) k)) k)) k)
  | .exp e, r, r', Q, q, h, k => by rw [wx_exp] at k ⊢; exact (wp_le e h).v ((wp_mono e r).v (fun _ => q.nx h) k)
  | .ret e, r, r', Q, q, h, k => by rw [wx_ret] at k ⊢; exact (wp_le e h).v k
  | .ife c a b, r, r', Q, q, h, k => by rw [wx_ife] at k ⊢; exact (wp_le c h).t ((wp_mono c r).t (fun _ => ite_le (wxs_le a q h) (wxs_le b q h)) k)
  | .for_ t kd es b, r, r', Q, q, h, k => by
    rw [wx_for] at k ⊢
    exact wps_le es h (wps_mono es r (fun _ => opt_mono fun xs => wfor_le (f := wfT G wn t b) (fun x r Q Q' q => opt_mono fun r' => wxs_mono b r' q) (fun x {r r'} Q q h k => by
      unfold wfT at k ⊢
      cases hb : bindT t x r with
      | none => rw [hb] at k; exact k.elim
      | some p =>
        obtain ⟨p', e1, hp⟩ := bindT_le t x h hb
        rw [hb] at k
        rw [e1]
        exact wxs_le b q hp k) q xs h) k)
  | .whl c b, r, r', Q, q, h, k => by
    rw [wx_whl] at k ⊢
    exact wwhl_le (fun r => (wp_mono c r).t) (fun h => (wp_le c h).t) (fun Q q h k => wxs_le b q h k) q wn h k
  | .brk, r, r', Q, q, h, k => by rw [wx_brk] at k ⊢; exact q.bk h k
  | .cnt, r, r', Q, q, h, k => by rw [wx_cnt] at k ⊢; exact q.ct h k
  | .pas, r, r', Q, q, h, k => by rw [wx_pas] at k ⊢; exact q.nx h k
theorem wxs_le : ∀ (xs : List S) {r r' : Env} {Q : Po4}, UpC Q → LeE r r' → wxs G wn xs r Q → wxs G wn xs r' Q
  | [], r, r', Q, q, h, k => by rw [wxs_nil] at k ⊢; exact q.nx h k
  | x :: xs, r, r', Q, q, h, k => by
    rw [wxs_cons] at k ⊢
    exact wx_le x ⟨fun h k => wxs_le xs q h k, q.bk, q.ct⟩ h k
end
theorem upc_ends {K : D → Prop} : UpC (ends K) := ⟨fun _ k => k, fun _ k => k, fun _ k => k⟩
theorem upc_seq {xs : List S} {Q : Po4} (q : UpC Q) : UpC ⟨fun r => wxs G wn xs r Q, Q.rt, Q.bk, Q.ct⟩ := ⟨fun h k => wxs_le xs q h k, q.bk, q.ct⟩
theorem upc_turn {J J' : Env → Prop} {rt : D → Prop} {nx : Env → Prop} (h : ∀ {r r'}, LeE r r' → nx r → nx r') : UpC ⟨up J, rt, nx, up J'⟩ := ⟨fun h => up_le h, fun h' => h h', fun h => up_le h⟩
/-- fewer slots are enough -/
theorem wxs_less {xs : List S} {r r' : Env} {Q : Po4} (q : UpC Q) (h : LeE r r') (k : wxs G wn xs r Q) : wxs G wn xs r' Q := wxs_le xs q h k
theorem wfor_less {t : Tg} {b : List S} {zs : List D} {r r' : Env} {Q : Po4} (q : UpC Q) (h : LeE r r') (k : wfor (wfT G wn t b) Q zs r) : wfor (wfT G wn t b) Q zs r' :=
  wfor_le (f := wfT G wn t b) (fun x r Q Q' q => opt_mono fun r' => wxs_mono b r' q) (fun x {r r'} Q q h k => by
      unfold wfT at k ⊢
      cases hb : bindT t x r with
      | none => rw [hb] at k; exact k.elim
      | some p =>
        obtain ⟨p', e1, hp⟩ := bindT_le t x h hb
        rw [hb] at k
        rw [e1]
        exact wxs_le b q hp k) q zs h k
/-- a loop of turns that all pass -/
theorem for_pass {α : Type} {en : α → D} {t : Tg} {b : List S} {Q : Po4} {zs : List α} {R : Env} (uq : UpC Q) (hs : ∀ z ∈ zs, ∀ Q' : Po4, UpC Q' → (∀ r', LeE R r' → Q'.nx r') → wfT G wn t b (en z) R Q') (h1 : Q.nx R) : wfor (wfT G wn t b) Q (zs.map en) R := by
  refine for_inv (fun rest r => r = R ∧ (∀ z ∈ rest, z ∈ zs)) ⟨rfl, fun _ h => h⟩ ?_ ?_
  · rintro z rest r ⟨rfl, h2⟩
    exact hs z (h2 z List.mem_cons_self) _ (upc_turn uq.nx) fun r' l => ⟨r, l, rfl, fun y hy => h2 y (List.mem_cons_of_mem _ hy)⟩
  · rintro r ⟨rfl, _⟩
    exact h1
end
end Ip

namespace Law
open Ip
def ft : PySem.Str → Option (Nat × Nat) := fun x => ([("told_names", 0, 2), ("does_tell", 1, 3), ("all_parts_of", 2, 1), ("least_tellers", 3, 3), ("kept_rules", 4, 2), ("same_rules", 5, 2), ("told_by_parts", 6, 3), ("lost_rules", 7, 2), ("_law_draw", 10, 2), ("_law_same", 11, 2), ("_law_rules", 12, 3), ("_law_parts", 13, 1), ("_law_whole", 14, 2), ("_law_tells", 15, 3)] : List (PySem.Str × Nat × Nat)).lookup x
/-- told_names: 0 names, 1 rules, 2 found, 3 changed, 4 columns, 5 column, 6 name -/
def k1_told_names : Ip.E := (.loc 6)
def e1_told_names : Ip.E := (.con (.bl true))
def e2_told_names : Ip.E := (.cmp .in_ (.loc 6) (.loc 2))
def b1_told_names : List Ip.S := [(.ife (.and_ (.cmp .notIn (.loc 5) (.loc 2)) (.bi .all [(.lc [6] (.nm 6) .seq [(.loc 4)] [] e2_told_names)])) [(.ife (.con (.bl true)) [.dput 2 (.loc 5) (.con (.bl true)), .set 3 false (.con (.bl true))] [])] [])]
def w1t1_told_names : List Ip.S := [(.for_ (.tp [(.nm 4), (.nm 5)]) .seq [(.loc 1)] b1_told_names)]
def w1_told_names : List Ip.S := (.set 3 false (.con (.bl false))) :: w1t1_told_names
def ut2_told_names : List Ip.S := [(.ret (.bi .tuple [(.bi .sorted [(.loc 2)])]))]
def ut1_told_names : List Ip.S := (.whl (.loc 3) w1_told_names) :: ut2_told_names
def u_told_names : List Ip.S := (.par [(2, true), (3, false)] [(.dc [6] (.nm 6) .seq [(.loc 0)] [] k1_told_names e1_told_names), (.con (.bl true))]) :: ut1_told_names
/-- does_tell: 0 rules, 1 names, 2 name -/
def u_does_tell : List Ip.S := [(.ret (.cmp .in_ (.loc 2) (.call 0 [(.loc 1), (.loc 0)])))]
/-- all_parts_of: 0 names, 1 rows, 2 name, 3 _, 4 row -/
def e1_all_parts_of : Ip.E := (.bin .add (.loc 4) (.tup [(.loc 2)]))
def b1_all_parts_of : List Ip.S := [(.set 1 false (.bin .add (.loc 1) (.lc [4] (.nm 4) .seq [(.loc 1)] [] e1_all_parts_of)))]
def e2_all_parts_of : Ip.E := (.tup [(.bi .len [(.loc 4)]), (.loc 4)])
def e3_all_parts_of : Ip.E := (.loc 4)
def ut2_all_parts_of : List Ip.S := [(.ret (.lc [3, 4] (.tp [(.nm 3), (.nm 4)]) .seq [(.bi .sorted [(.lc [4] (.nm 4) .seq [(.loc 1)] [] e2_all_parts_of)])] [] e3_all_parts_of))]
def ut1_all_parts_of : List Ip.S := (.for_ (.nm 2) .seq [(.bi .sorted [(.loc 0)])] b1_all_parts_of) :: ut2_all_parts_of
def u_all_parts_of : List Ip.S := (.set 1 false (.lst [(.tup [])])) :: ut1_all_parts_of
/-- least_tellers: 0 names, 1 rules, 2 name, 3 found, 4 part, 5 one, 6 less -/
def q1_least_tellers : Ip.E := (.cmp .ne (.loc 5) (.loc 2))
def e1_least_tellers : Ip.E := (.loc 5)
def e2_least_tellers : Ip.E := (.cmp .in_ (.loc 5) (.loc 4))
def e3_least_tellers : Ip.E := (.bi .all [(.lc [5] (.nm 5) .seq [(.loc 6)] [] e2_least_tellers)])
def b1_least_tellers : List Ip.S := [(.ife (.and_ (.not_ (.bi .any [(.lc [6] (.nm 6) .seq [(.loc 3)] [] e3_least_tellers)])) (.call 1 [(.loc 1), (.loc 4), (.loc 2)])) [(.app 3 (.loc 4))] [])]
def ut2_least_tellers : List Ip.S := [(.ret (.bi .tuple [(.bi .sorted [(.loc 3)])]))]
def ut1_least_tellers : List Ip.S := (.for_ (.nm 4) .seq [(.call 2 [(.lc [5] (.nm 5) .seq [(.loc 0)] [q1_least_tellers] e1_least_tellers)])] b1_least_tellers) :: ut2_least_tellers
def u_least_tellers : List Ip.S := (.set 3 true (.lst [])) :: ut1_least_tellers
/-- kept_rules: 0 names, 1 rules, 2 found, 3 name, 4 part -/
def e1_kept_rules : Ip.E := (.tup [(.loc 4), (.loc 3)])
def b1_kept_rules : List Ip.S := [(.ext 2 (.lc [4] (.nm 4) .seq [(.call 3 [(.loc 0), (.loc 1), (.loc 3)])] [] e1_kept_rules))]
def ut2_kept_rules : List Ip.S := [(.ret (.bi .tuple [(.bi .sorted [(.loc 2)])]))]
def ut1_kept_rules : List Ip.S := (.for_ (.nm 3) .seq [(.loc 0)] b1_kept_rules) :: ut2_kept_rules
def u_kept_rules : List Ip.S := (.set 2 true (.lst [])) :: ut1_kept_rules
/-- same_rules: 0 one, 1 other, 2 columns, 3 column -/
def e1_same_rules : Ip.E := (.call 1 [(.loc 0), (.loc 2), (.loc 3)])
def e2_same_rules : Ip.E := (.call 1 [(.loc 1), (.loc 2), (.loc 3)])
def ut1_same_rules : List Ip.S := [(.ret (.bi .all [(.lc [2, 3] (.tp [(.nm 2), (.nm 3)]) .seq [(.loc 0)] [] e2_same_rules)]))]
def u_same_rules : List Ip.S := (.ife (.not_ (.bi .all [(.lc [2, 3] (.tp [(.nm 2), (.nm 3)]) .seq [(.loc 1)] [] e1_same_rules)])) [(.ret (.con (.bl false)))] []) :: ut1_same_rules
/-- told_by_parts: 0 parts, 1 rules, 2 names, 3 found, 4 later, 5 part, 6 mine, 7 name, 8 one -/
def k1_told_by_parts : Ip.E := (.loc 7)
def e1_told_by_parts : Ip.E := (.con (.bl true))
def q1_told_by_parts : Ip.E := (.cmp .in_ (.loc 8) (.loc 5))
def e2_told_by_parts : Ip.E := (.loc 8)
def q2_told_by_parts : Ip.E := (.cmp .in_ (.loc 7) (.loc 5))
def e3_told_by_parts : Ip.E := (.loc 7)
def b1_told_by_parts : List Ip.S := [(.dput 4 (.loc 7) (.con (.bl true)))]
def b2t1_told_by_parts : List Ip.S := [(.for_ (.nm 7) .seq [(.loc 6)] b1_told_by_parts)]
def b2_told_by_parts : List Ip.S := (.set 6 false (.lc [7] (.nm 7) .seq [(.call 0 [(.lc [8] (.nm 8) .seq [(.loc 3)] [q1_told_by_parts] e2_told_by_parts), (.loc 1)])] [q2_told_by_parts] e3_told_by_parts)) :: b2t1_told_by_parts
def w1t3_told_by_parts : List Ip.S := [(.set 3 false (.bi .tuple [(.bi .sorted [(.loc 4)])]))]
def w1t2_told_by_parts : List Ip.S := (.ife (.cmp .eq (.bi .tuple [(.bi .sorted [(.loc 4)])]) (.loc 3)) [(.ret (.loc 3))] []) :: w1t3_told_by_parts
def w1t1_told_by_parts : List Ip.S := (.for_ (.nm 5) .seq [(.loc 0)] b2_told_by_parts) :: w1t2_told_by_parts
def w1_told_by_parts : List Ip.S := (.set 4 true (.dc [7] (.nm 7) .seq [(.loc 3)] [] k1_told_by_parts e1_told_by_parts)) :: w1t1_told_by_parts
def ut1_told_by_parts : List Ip.S := [(.whl (.con (.bl true)) w1_told_by_parts)]
def u_told_by_parts : List Ip.S := (.set 3 false (.bi .tuple [(.bi .sorted [(.loc 2)])])) :: ut1_told_by_parts
/-- lost_rules: 0 parts, 1 rules, 2 rule -/
def q1_lost_rules : Ip.E := (.cmp .notIn (.sub (.loc 2) (.con (.int 1))) (.call 6 [(.loc 0), (.loc 1), (.sub (.loc 2) (.con (.int 0)))]))
def e1_lost_rules : Ip.E := (.loc 2)
def u_lost_rules : List Ip.S := [(.ret (.bi .tuple [(.lc [2] (.nm 2) .seq [(.loc 1)] [q1_lost_rules] e1_lost_rules)]))]
/-- _law_same: 0 a, 1 b, 2 k -/
def e1__law_same : Ip.E := (.call 11 [(.sub (.loc 0) (.loc 2)), (.sub (.loc 1) (.loc 2))])
def ut3__law_same : List Ip.S := [(.ret (.and_ (.cmp .is (.loc 0) (.con .non)) (.cmp .is (.loc 1) (.con .non))))]
def ut2__law_same : List Ip.S := (.ife (.or_ (.and_ (.isi .int (.loc 0)) (.isi .int (.loc 1))) (.and_ (.isi .str (.loc 0)) (.isi .str (.loc 1)))) [(.ret (.cmp .eq (.loc 0) (.loc 1)))] []) :: ut3__law_same
def ut1__law_same : List Ip.S := (.ife (.or_ (.isi .bool (.loc 0)) (.isi .bool (.loc 1))) [(.ret (.and_ (.isi .bool (.loc 0)) (.and_ (.isi .bool (.loc 1)) (.cmp .eq (.loc 0) (.loc 1)))))] []) :: ut2__law_same
def u__law_same : List Ip.S := (.ife (.or_ (.and_ (.isi .tuple (.loc 0)) (.isi .tuple (.loc 1))) (.and_ (.isi .list (.loc 0)) (.isi .list (.loc 1)))) [(.ret (.and_ (.cmp .eq (.bi .len [(.loc 0)]) (.bi .len [(.loc 1)])) (.bi .all [(.lc [2] (.nm 2) .rng [(.bi .len [(.loc 0)])] [] e1__law_same)])))] []) :: ut1__law_same
/-- _law_rules: 0 box, 1 names, 2 many, 3 found, 4 turn, 5 column, 6 name -/
def q1__law_rules : Ip.E := (.and_ (.cmp .ne (.loc 6) (.loc 5)) (.cmp .eq (.call 10 [(.loc 0), (.con (.int 3))]) (.con (.int 0))))
def e1__law_rules : Ip.E := (.loc 6)
def b1t1__law_rules : List Ip.S := [(.dput 3 (.tup [(.bi .tuple [(.lc [6] (.nm 6) .seq [(.loc 1)] [q1__law_rules] e1__law_rules)]), (.loc 5)]) (.con (.bl true)))]
def b1__law_rules : List Ip.S := (.set 5 false (.sub (.loc 1) (.call 10 [(.loc 0), (.bi .len [(.loc 1)])]))) :: b1t1__law_rules
def ut2__law_rules : List Ip.S := [(.ret (.bi .tuple [(.bi .sorted [(.loc 3)])]))]
def ut1__law_rules : List Ip.S := (.for_ (.nm 4) .rng [(.call 10 [(.loc 0), (.bin .add (.loc 2) (.con (.int 1)))])] b1__law_rules) :: ut2__law_rules
def u__law_rules : List Ip.S := (.set 3 true (.dct [])) :: ut1__law_rules
/-- _law_parts: 0 names, 1 rows, 2 name, 3 pair, 4 row -/
def e1__law_parts : Ip.E := (.bin .add (.loc 4) (.tup [(.loc 2)]))
def b1__law_parts : List Ip.S := [(.set 1 false (.bin .add (.loc 1) (.lc [4] (.nm 4) .seq [(.loc 1)] [] e1__law_parts)))]
def e2__law_parts : Ip.E := (.tup [(.bi .len [(.loc 4)]), (.loc 4)])
def e3__law_parts : Ip.E := (.sub (.loc 3) (.con (.int 1)))
def ut2__law_parts : List Ip.S := [(.ret (.lc [3] (.nm 3) .seq [(.bi .sorted [(.lc [4] (.nm 4) .seq [(.loc 1)] [] e2__law_parts)])] [] e3__law_parts))]
def ut1__law_parts : List Ip.S := (.for_ (.nm 2) .seq [(.bi .sorted [(.loc 0)])] b1__law_parts) :: ut2__law_parts
def u__law_parts : List Ip.S := (.set 1 false (.lst [(.tup [])])) :: ut1__law_parts
/-- _law_whole: 0 names, 1 rules, 2 part, 3 columns, 4 column, 5 name -/
def e1__law_whole : Ip.E := (.cmp .in_ (.loc 5) (.loc 2))
def e2__law_whole : Ip.E := (.and_ (.cmp .notIn (.loc 4) (.loc 2)) (.bi .all [(.lc [5] (.nm 5) .seq [(.loc 3)] [] e1__law_whole)]))
def q1__law_whole : Ip.E := (.not_ (.bi .any [(.lc [3, 4] (.tp [(.nm 3), (.nm 4)]) .seq [(.loc 1)] [] e2__law_whole)]))
def e3__law_whole : Ip.E := (.loc 2)
def u__law_whole : List Ip.S := [(.ret (.lc [2] (.nm 2) .seq [(.call 13 [(.loc 0)])] [q1__law_whole] e3__law_whole))]
/-- _law_tells: 0 wholes, 1 part, 2 name, 3 whole, 4 one -/
def e1__law_tells : Ip.E := (.cmp .in_ (.loc 4) (.loc 3))
def q1__law_tells : Ip.E := (.bi .all [(.lc [4] (.nm 4) .seq [(.loc 1)] [] e1__law_tells)])
def e2__law_tells : Ip.E := (.cmp .in_ (.loc 2) (.loc 3))
def u__law_tells : List Ip.S := [(.ret (.bi .all [(.lc [3] (.nm 3) .seq [(.loc 0)] [q1__law_tells] e2__law_tells)]))]
/-- law: 0 script, 1 box, 2 turn, 3 names, 4 rules, 5 parts, 6 step, 7 wholes, 8 seen, 9 one, 10 some, 11 lost, 12 together, 13 part, 14 due, 15 found, 16 columns, 17 column, 18 shown_by, 19 name, 20 whole -/
def q1_law : Ip.E := (.cmp .eq (.call 10 [(.loc 1), (.con (.int 2))]) (.con (.int 0)))
def e1_law : Ip.E := (.loc 19)
def b1_law : List Ip.S := [(.dput 5 (.bi .tuple [(.lc [19] (.nm 19) .seq [(.loc 3)] [q1_law] e1_law)]) (.con (.bl true)))]
def e2_law : Ip.E := (.cmp .in_ (.loc 19) (.loc 13))
def q2_law : Ip.E := (.not_ (.bi .any [(.lc [13] (.nm 13) .seq [(.loc 5)] [] e2_law)]))
def e3_law : Ip.E := (.loc 19)
def q3_law : Ip.E := (.cmp .ne (.loc 13) (.tup []))
def e4_law : Ip.E := (.loc 13)
def q4_law : Ip.E := (.cmp .in_ (.loc 19) (.loc 13))
def e5_law : Ip.E := (.loc 19)
def q5_law : Ip.E := (.cmp .in_ (.loc 19) (.loc 13))
def e6_law : Ip.E := (.loc 19)
def e7_law : Ip.E := (.cmp .eq (.lc [19] (.nm 19) .seq [(.loc 20)] [q4_law] e5_law) (.lc [19] (.nm 19) .seq [(.loc 9)] [q5_law] e6_law))
def e8_law : Ip.E := (.bi .any [(.lc [20] (.nm 20) .seq [(.loc 7)] [] e7_law)])
def b2_law : List Ip.S := [(.ife (.bi .all [(.lc [13] (.nm 13) .seq [(.loc 5)] [] e8_law)]) [(.app 8 (.loc 9))] [])]
def q6_law : Ip.E := (.call 15 [(.loc 8), (.loc 10), (.loc 19)])
def e9_law : Ip.E := (.loc 19)
def e10_law : Ip.E := (.cmp .in_ (.loc 19) (.call 0 [(.loc 10), (.loc 4)]))
def b3t2_law : List Ip.S := [(.ife (.or_ (.not_ (.call 11 [(.loc 15), (.loc 14)])) (.not_ (.bi .all [(.lc [19] (.nm 19) .seq [(.loc 15)] [] e10_law)]))) [(.ret (.con (.bl false)))] [])]
def b3t1_law : List Ip.S := (.fz [5] (.set 15 false (.call 6 [(.loc 5), (.loc 4), (.loc 10)]))) :: b3t2_law
def b3_law : List Ip.S := (.fz [8] (.set 14 false (.bi .tuple [(.lc [19] (.nm 19) .seq [(.loc 3)] [q6_law] e9_law)]))) :: b3t1_law
def q7_law : Ip.E := (.not_ (.call 15 [(.loc 8), (.loc 16), (.loc 17)]))
def e11_law : Ip.E := (.tup [(.loc 16), (.loc 17)])
def b4_law : List Ip.S := [(.ext 12 (.call 4 [(.loc 13), (.loc 4)]))]
def e12_law : Ip.E := (.cmp .in_ (.loc 19) (.loc 9))
def q8_law : Ip.E := (.and_ (.bi .all [(.lc [19] (.nm 19) .seq [(.loc 16)] [] e12_law)]) (.cmp .notIn (.loc 17) (.loc 9)))
def e13_law : Ip.E := (.loc 9)
def b5t1_law : List Ip.S := [(.fz [12] (.ife (.or_ (.cmp .eq (.loc 18) (.lst [])) (.cmp .isNot (.call 1 [(.loc 12), (.loc 16), (.loc 17)]) (.con (.bl false)))) [(.ret (.con (.bl false)))] []))]
def b5_law : List Ip.S := (.set 18 false (.lc [9] (.nm 9) .seq [(.loc 8)] [q8_law] e13_law)) :: b5t1_law
def b6t16_law : List Ip.S := [(.for_ (.tp [(.nm 16), (.nm 17)]) .seq [(.loc 11)] b5_law)]
def b6t15_law : List Ip.S := (.fz [12] (.ife (.cmp .ne (.call 5 [(.loc 12), (.loc 4)]) (.cmp .eq (.loc 11) (.tup []))) [(.ret (.con (.bl false)))] [])) :: b6t16_law
def b6t14_law : List Ip.S := (.set 12 false (.bi .tuple [(.me .sset (.loc 12) [])])) :: b6t15_law
def b6t13_law : List Ip.S := (.fz [5] (.for_ (.nm 13) .seq [(.loc 5)] b4_law)) :: b6t14_law
def b6t12_law : List Ip.S := (.set 12 true (.lst [])) :: b6t13_law
def b6t11_law : List Ip.S := (.fz [5] (.ife (.or_ (.not_ (.call 11 [(.call 7 [(.loc 5), (.loc 4)]), (.loc 11)])) (.cmp .ne (.call 7 [(.tup [(.loc 3)]), (.loc 4)]) (.tup []))) [(.ret (.con (.bl false)))] [])) :: b6t12_law
def b6t10_law : List Ip.S := (.fz [8] (.set 11 false (.bi .tuple [(.lc [16, 17] (.tp [(.nm 16), (.nm 17)]) .seq [(.loc 4)] [q7_law] e11_law)]))) :: b6t11_law
def b6t9_law : List Ip.S := (.for_ (.nm 10) .seq [(.call 13 [(.loc 3)])] b3_law) :: b6t10_law
def b6t8_law : List Ip.S := (.for_ (.nm 9) .seq [(.call 13 [(.loc 3)])] b2_law) :: b6t9_law
def b6t7_law : List Ip.S := (.set 8 true (.lst [])) :: b6t8_law
def b6t6_law : List Ip.S := (.set 7 false (.call 14 [(.loc 3), (.loc 4)])) :: b6t7_law
def b6t5_law : List Ip.S := (.set 5 false (.bi .tuple [(.bi .sorted [(.lc [13] (.nm 13) .seq [(.loc 5)] [q3_law] e4_law)])])) :: b6t6_law
def b6t4_law : List Ip.S := (.dput 5 (.bi .tuple [(.lc [19] (.nm 19) .seq [(.loc 3)] [q2_law] e3_law)]) (.con (.bl true))) :: b6t5_law
def b6t3_law : List Ip.S := (.for_ (.nm 6) .rng [(.bin .add (.con (.int 1)) (.call 10 [(.loc 1), (.con (.int 3))]))] b1_law) :: b6t4_law
def b6t2_law : List Ip.S := (.set 5 true (.dct [])) :: b6t3_law
def b6t1_law : List Ip.S := (.set 4 false (.call 12 [(.loc 1), (.loc 3), (.con (.int 5))])) :: b6t2_law
def b6_law : List Ip.S := (.set 3 false (.sli (.tup [(.con (.str [112])), (.con (.str [113])), (.con (.str [114])), (.con (.str [115])), (.con (.str [117]))]) none (some (.bin .add (.con (.int 1)) (.call 10 [(.loc 1), (.con (.int 5))]))))) :: b6t1_law
def ut1_law : List Ip.S := [(.ret (.con (.bl true)))]
def u_law : List Ip.S := (.for_ (.nm 2) .rng [(.con (.int 5))] b6_law) :: ut1_law
def dsL : List (Option Df) := [some ⟨2, 5, u_told_names⟩, some ⟨3, 0, u_does_tell⟩, some ⟨1, 4, u_all_parts_of⟩, some ⟨3, 4, u_least_tellers⟩, some ⟨2, 3, u_kept_rules⟩, some ⟨2, 2, u_same_rules⟩, some ⟨3, 6, u_told_by_parts⟩, some ⟨2, 1, u_lost_rules⟩, none, none, none, some ⟨2, 1, u__law_same⟩, some ⟨3, 4, u__law_rules⟩, some ⟨1, 4, u__law_parts⟩, some ⟨2, 4, u__law_whole⟩, some ⟨3, 2, u__law_tells⟩, none]
def tb (wn : Nat) : Tb := ⟨fun i => if i = 10 then some pDraw else none, fun i => dsL.getD i none, ft, wn⟩
def e_law : Env := env0 21 1
end Law

namespace Law
open PySem PySem.Spec PyProof.Rows L2 Ip
def top (i : Nat) : Stmt := PySem.Challenge.pw_schemasmoved_k56_whole_rules_kept.main.body.getD i (.Pass ⟨0, 0, 0, 0⟩)
abbrev s_told_names : Stmt := top 1
abbrev s_does_tell : Stmt := top 2
abbrev s_all_parts_of : Stmt := top 3
abbrev s_least_tellers : Stmt := top 4
abbrev s_kept_rules : Stmt := top 5
abbrev s_same_rules : Stmt := top 6
abbrev s_told_by_parts : Stmt := top 8
abbrev s_lost_rules : Stmt := top 9
abbrev s__law_box : Stmt := top 11
abbrev s__law_load : Stmt := top 12
abbrev s__law_draw : Stmt := top 13
abbrev s__law_same : Stmt := top 14
abbrev s__law_rules : Stmt := top 15
abbrev s__law_parts : Stmt := top 16
abbrev s__law_whole : Stmt := top 17
abbrev s__law_tells : Stmt := top 18
abbrev s_law : Stmt := top 19
abbrev N_told_names : List Str := ["names", "rules", "found", "changed", "columns", "column", "name"]
abbrev N_does_tell : List Str := ["rules", "names", "name"]
abbrev N_all_parts_of : List Str := ["names", "rows", "name", "_", "row"]
abbrev N_least_tellers : List Str := ["names", "rules", "name", "found", "part", "one", "less"]
abbrev N_kept_rules : List Str := ["names", "rules", "found", "name", "part"]
abbrev N_same_rules : List Str := ["one", "other", "columns", "column"]
abbrev N_told_by_parts : List Str := ["parts", "rules", "names", "found", "later", "part", "mine", "name", "one"]
abbrev N_lost_rules : List Str := ["parts", "rules", "rule"]
abbrev N__law_same : List Str := ["a", "b", "k"]
abbrev N__law_rules : List Str := ["box", "names", "many", "found", "turn", "column", "name"]
abbrev N__law_parts : List Str := ["names", "rows", "name", "pair", "row"]
abbrev N__law_whole : List Str := ["names", "rules", "part", "columns", "column", "name"]
abbrev N__law_tells : List Str := ["wholes", "part", "name", "whole", "one"]
abbrev N_law : List Str := ["script", "box", "turn", "names", "rules", "parts", "step", "wholes", "seen", "one", "some", "lost", "together", "part", "due", "found", "columns", "column", "shown_by", "name", "whole"]
section
variable {W : Wd} {G : Gl} {wn : Nat}
theorem b_told_names : SSs ⟨N_told_names, defScope s_told_names, fun _ => true, ft⟩ W G wn (defBody s_told_names) u_told_names :=
  (sss_cons (ss_parT2 2 3 true false (sf_dc (Dc.mk (own := [("name", 6)]) (si_seq (se_var 0)) ⟨rfl, by decide +kernel, by decide +kernel, by decide +kernel, by decide +kernel⟩ (sg_nm 6) st_nil (se_var 6) se_bl)) se_bl)
  (sss_cons (ss_whl (se_var 3) (sss_cons (ss_set 3 false se_bl)
  (sss_cons (ss_for (si_seq (se_var 1)) (sg_tp (sgs_cons (sg_nm 4) (sgs_cons (sg_nm 5) sgs_nil))) (sss_cons (ss_if (se_and (sb_and (se_cmp .notIn (se_var 5) (se_var 2)) (sb_and1 (se_bi .all (sa_cons (se_lc (Lc.mk (own := [("name", 6)]) (si_seq (se_var 4)) ⟨rfl, by decide +kernel, by decide +kernel, by decide +kernel, by decide +kernel⟩ (sg_nm 6) st_nil (se_cmp .in_ (se_var 6) (se_var 2)))) sa_nil))))) (sss_cons (ss_dputn 2 3 se_bl (se_var 5))
  sss_nil) sss_nil)
  sss_nil))
  sss_nil)))
  (sss_cons (ss_ret (se_bi .tuple (sa_cons (se_bi .sorted (sa_cons (se_var 2) sa_nil)) sa_nil)))
  sss_nil)))
theorem b_does_tell : SSs ⟨N_does_tell, defScope s_does_tell, fun _ => true, ft⟩ W G wn (defBody s_does_tell) u_does_tell :=
  (sss_cons (ss_ret (se_cmp .in_ (se_var 2) (se_call 0 2 rfl (sa_cons (se_var 1) (sa_cons (se_var 0) sa_nil)))))
  sss_nil)
theorem b_all_parts_of : SSs ⟨N_all_parts_of, defScope s_all_parts_of, fun _ => true, ft⟩ W G wn (defBody s_all_parts_of) u_all_parts_of :=
  (sss_cons (ss_set 1 false (se_lst (sa_cons (se_tup sa_nil) sa_nil)))
  (sss_cons (ss_for (si_seq (se_bi .sorted (sa_cons (se_var 0) sa_nil))) (sg_nm 2) (sss_cons (ss_set 1 false (se_bin .add (se_var 1) (se_lc (Lc.mk (own := [("row", 4)]) (si_seq (se_var 1)) ⟨rfl, by decide +kernel, by decide +kernel, by decide +kernel, by decide +kernel⟩ (sg_nm 4) st_nil (se_bin .add (se_var 4) (se_tup (sa_cons (se_var 2) sa_nil)))))))
  sss_nil))
  (sss_cons (ss_ret (se_lc (Lc.mk (own := [("_", 3), ("row", 4)]) (si_seq (se_bi .sorted (sa_cons (se_lc (Lc.mk (own := [("row", 4)]) (si_seq (se_var 1)) ⟨rfl, by decide +kernel, by decide +kernel, by decide +kernel, by decide +kernel⟩ (sg_nm 4) st_nil (se_tup (sa_cons (se_bi .len (sa_cons (se_var 4) sa_nil)) (sa_cons (se_var 4) sa_nil))))) sa_nil))) ⟨rfl, by decide +kernel, by decide +kernel, by decide +kernel, by decide +kernel⟩ (sg_tp (sgs_cons (sg_nm 3) (sgs_cons (sg_nm 4) sgs_nil))) st_nil (se_var 4))))
  sss_nil)))
theorem b_least_tellers : SSs ⟨N_least_tellers, defScope s_least_tellers, fun _ => true, ft⟩ W G wn (defBody s_least_tellers) u_least_tellers :=
  (sss_cons (ss_set 3 true (sf_lst sa_nil))
  (sss_cons (ss_for (si_seq (se_call 2 1 rfl (sa_cons (se_lc (Lc.mk (own := [("one", 5)]) (si_seq (se_var 0)) ⟨rfl, by decide +kernel, by decide +kernel, by decide +kernel, by decide +kernel⟩ (sg_nm 5) (st_one (se_cmp .ne (se_var 5) (se_var 2))) (se_var 5))) sa_nil))) (sg_nm 4) (sss_cons (ss_if (se_and (sb_and (se_not (se_bi .any (sa_cons (se_lc (Lc.mk (own := [("less", 6)]) (si_seq (se_var 3)) ⟨rfl, by decide +kernel, by decide +kernel, by decide +kernel, by decide +kernel⟩ (sg_nm 6) st_nil (se_bi .all (sa_cons (se_lc (Lc.mk (own := [("one", 5)]) (si_seq (se_var 6)) ⟨rfl, by decide +kernel, by decide +kernel, by decide +kernel, by decide +kernel⟩ (sg_nm 5) st_nil (se_cmp .in_ (se_var 5) (se_var 4)))) sa_nil)))) sa_nil))) (sb_and1 (se_call 1 3 rfl (sa_cons (se_var 1) (sa_cons (se_var 4) (sa_cons (se_var 2) sa_nil))))))) (sss_cons (ss_app 3 (se_var 4))
  sss_nil) sss_nil)
  sss_nil))
  (sss_cons (ss_ret (se_bi .tuple (sa_cons (se_bi .sorted (sa_cons (se_var 3) sa_nil)) sa_nil)))
  sss_nil)))
theorem b_kept_rules : SSs ⟨N_kept_rules, defScope s_kept_rules, fun _ => true, ft⟩ W G wn (defBody s_kept_rules) u_kept_rules :=
  (sss_cons (ss_set 2 true (sf_lst sa_nil))
  (sss_cons (ss_for (si_seq (se_var 0)) (sg_nm 3) (sss_cons (ss_ext 2 (se_lc (Lc.mk (own := [("part", 4)]) (si_seq (se_call 3 3 rfl (sa_cons (se_var 0) (sa_cons (se_var 1) (sa_cons (se_var 3) sa_nil))))) ⟨rfl, by decide +kernel, by decide +kernel, by decide +kernel, by decide +kernel⟩ (sg_nm 4) st_nil (se_tup (sa_cons (se_var 4) (sa_cons (se_var 3) sa_nil))))))
  sss_nil))
  (sss_cons (ss_ret (se_bi .tuple (sa_cons (se_bi .sorted (sa_cons (se_var 2) sa_nil)) sa_nil)))
  sss_nil)))
theorem b_same_rules : SSs ⟨N_same_rules, defScope s_same_rules, fun _ => true, ft⟩ W G wn (defBody s_same_rules) u_same_rules :=
  (sss_cons (ss_if (se_not (se_bi .all (sa_cons (se_lc (Lc.mk (own := [("columns", 2), ("column", 3)]) (si_seq (se_var 1)) ⟨rfl, by decide +kernel, by decide +kernel, by decide +kernel, by decide +kernel⟩ (sg_tp (sgs_cons (sg_nm 2) (sgs_cons (sg_nm 3) sgs_nil))) st_nil (se_call 1 3 rfl (sa_cons (se_var 0) (sa_cons (se_var 2) (sa_cons (se_var 3) sa_nil)))))) sa_nil))) (sss_cons (ss_ret se_bl)
  sss_nil) sss_nil)
  (sss_cons (ss_ret (se_bi .all (sa_cons (se_lc (Lc.mk (own := [("columns", 2), ("column", 3)]) (si_seq (se_var 0)) ⟨rfl, by decide +kernel, by decide +kernel, by decide +kernel, by decide +kernel⟩ (sg_tp (sgs_cons (sg_nm 2) (sgs_cons (sg_nm 3) sgs_nil))) st_nil (se_call 1 3 rfl (sa_cons (se_var 1) (sa_cons (se_var 2) (sa_cons (se_var 3) sa_nil)))))) sa_nil)))
  sss_nil))
theorem b_told_by_parts : SSs ⟨N_told_by_parts, defScope s_told_by_parts, fun _ => true, ft⟩ W G wn (defBody s_told_by_parts) u_told_by_parts :=
  (sss_cons (ss_set 3 false (se_bi .tuple (sa_cons (se_bi .sorted (sa_cons (se_var 2) sa_nil)) sa_nil)))
  (sss_cons (ss_whl se_bl (sss_cons (ss_setDc 4 true (Dc.mk (own := [("name", 7)]) (si_seq (se_var 3)) ⟨rfl, by decide +kernel, by decide +kernel, by decide +kernel, by decide +kernel⟩ (sg_nm 7) st_nil (se_var 7) se_bl))
  (sss_cons (ss_for (si_seq (se_var 0)) (sg_nm 5) (sss_cons (ss_setLc 6 false (Lc.mk (own := [("name", 7)]) (si_seq (se_call 0 2 rfl (sa_cons (se_lc (Lc.mk (own := [("one", 8)]) (si_seq (se_var 3)) ⟨rfl, by decide +kernel, by decide +kernel, by decide +kernel, by decide +kernel⟩ (sg_nm 8) (st_one (se_cmp .in_ (se_var 8) (se_var 5))) (se_var 8))) (sa_cons (se_var 1) sa_nil)))) ⟨rfl, by decide +kernel, by decide +kernel, by decide +kernel, by decide +kernel⟩ (sg_nm 7) (st_one (se_cmp .in_ (se_var 7) (se_var 5))) (se_var 7)))
  (sss_cons (ss_for (si_seq (se_var 6)) (sg_nm 7) (sss_cons (ss_dput 4 se_bl (se_var 7))
  sss_nil))
  sss_nil)))
  (sss_cons (ss_if (se_cmp .eq (se_bi .tuple (sa_cons (se_bi .sorted (sa_cons (se_var 4) sa_nil)) sa_nil)) (se_var 3)) (sss_cons (ss_ret (se_var 3))
  sss_nil) sss_nil)
  (sss_cons (ss_set 3 false (se_bi .tuple (sa_cons (se_bi .sorted (sa_cons (se_var 4) sa_nil)) sa_nil)))
  sss_nil)))))
  sss_nil))
theorem b_lost_rules : SSs ⟨N_lost_rules, defScope s_lost_rules, fun _ => true, ft⟩ W G wn (defBody s_lost_rules) u_lost_rules :=
  (sss_cons (ss_ret (se_bi .tuple (sa_cons (se_lc (Lc.mk (own := [("rule", 2)]) (si_seq (se_var 1)) ⟨rfl, by decide +kernel, by decide +kernel, by decide +kernel, by decide +kernel⟩ (sg_nm 2) (st_one (se_cmp .notIn (se_sub (se_var 2) se_int) (se_call 6 3 rfl (sa_cons (se_var 0) (sa_cons (se_var 1) (sa_cons (se_sub (se_var 2) se_int) sa_nil)))))) (se_var 2))) sa_nil)))
  sss_nil)
theorem b__law_same : SSs ⟨N__law_same, defScope s__law_same, fun _ => true, ft⟩ W G wn (defBody s__law_same) u__law_same :=
  (sss_cons (ss_if (se_or (sb_or (se_and (sb_and (se_isi .tuple (se_var 0)) (sb_and1 (se_isi .tuple (se_var 1))))) (sb_or1 (se_and (sb_and (se_isi .list (se_var 0)) (sb_and1 (se_isi .list (se_var 1)))))))) (sss_cons (ss_ret (se_and (sb_and (se_cmp .eq (se_bi .len (sa_cons (se_var 0) sa_nil)) (se_bi .len (sa_cons (se_var 1) sa_nil))) (sb_and1 (se_bi .all (sa_cons (se_lc (Lc.mk (own := [("k", 2)]) (si_rng1 (sa_cons (se_bi .len (sa_cons (se_var 0) sa_nil)) sa_nil)) ⟨rfl, by decide +kernel, by decide +kernel, by decide +kernel, by decide +kernel⟩ (sg_nm 2) st_nil (se_call 11 2 rfl (sa_cons (se_sub (se_var 0) (se_var 2)) (sa_cons (se_sub (se_var 1) (se_var 2)) sa_nil))))) sa_nil))))))
  sss_nil) sss_nil)
  (sss_cons (ss_if (se_or (sb_or (se_isi .bool (se_var 0)) (sb_or1 (se_isi .bool (se_var 1))))) (sss_cons (ss_ret (se_and (sb_and (se_isi .bool (se_var 0)) (sb_and (se_isi .bool (se_var 1)) (sb_and1 (se_cmp .eq (se_var 0) (se_var 1)))))))
  sss_nil) sss_nil)
  (sss_cons (ss_if (se_or (sb_or (se_and (sb_and (se_isi .int (se_var 0)) (sb_and1 (se_isi .int (se_var 1))))) (sb_or1 (se_and (sb_and (se_isi .str (se_var 0)) (sb_and1 (se_isi .str (se_var 1)))))))) (sss_cons (ss_ret (se_cmp .eq (se_var 0) (se_var 1)))
  sss_nil) sss_nil)
  (sss_cons (ss_ret (se_and (sb_and (se_cmp .is (se_var 0) se_non) (sb_and1 (se_cmp .is (se_var 1) se_non)))))
  sss_nil))))
theorem b__law_rules : SSs ⟨N__law_rules, defScope s__law_rules, fun _ => true, ft⟩ W G wn (defBody s__law_rules) u__law_rules :=
  (sss_cons (ss_set 3 true sf_dnew)
  (sss_cons (ss_for (si_rng1 (sa_cons (se_call 10 2 rfl (sa_cons (se_var 0) (sa_cons (se_bin .add (se_var 2) se_int) sa_nil))) sa_nil)) (sg_nm 4) (sss_cons (ss_set 5 false (se_sub (se_var 1) (se_call 10 2 rfl (sa_cons (se_var 0) (sa_cons (se_bi .len (sa_cons (se_var 1) sa_nil)) sa_nil)))))
  (sss_cons (ss_dput 3 se_bl (se_tup (sa_cons (se_bi .tuple (sa_cons (se_lc (Lc.mk (own := [("name", 6)]) (si_seq (se_var 1)) ⟨rfl, by decide +kernel, by decide +kernel, by decide +kernel, by decide +kernel⟩ (sg_nm 6) (st_one (se_and (sb_and (se_cmp .ne (se_var 6) (se_var 5)) (sb_and1 (se_cmp .eq (se_call 10 2 rfl (sa_cons (se_var 0) (sa_cons se_int sa_nil))) se_int))))) (se_var 6))) sa_nil)) (sa_cons (se_var 5) sa_nil))))
  sss_nil)))
  (sss_cons (ss_ret (se_bi .tuple (sa_cons (se_bi .sorted (sa_cons (se_var 3) sa_nil)) sa_nil)))
  sss_nil)))
theorem b__law_parts : SSs ⟨N__law_parts, defScope s__law_parts, fun _ => true, ft⟩ W G wn (defBody s__law_parts) u__law_parts :=
  (sss_cons (ss_set 1 false (se_lst (sa_cons (se_tup sa_nil) sa_nil)))
  (sss_cons (ss_for (si_seq (se_bi .sorted (sa_cons (se_var 0) sa_nil))) (sg_nm 2) (sss_cons (ss_set 1 false (se_bin .add (se_var 1) (se_lc (Lc.mk (own := [("row", 4)]) (si_seq (se_var 1)) ⟨rfl, by decide +kernel, by decide +kernel, by decide +kernel, by decide +kernel⟩ (sg_nm 4) st_nil (se_bin .add (se_var 4) (se_tup (sa_cons (se_var 2) sa_nil)))))))
  sss_nil))
  (sss_cons (ss_ret (se_lc (Lc.mk (own := [("pair", 3)]) (si_seq (se_bi .sorted (sa_cons (se_lc (Lc.mk (own := [("row", 4)]) (si_seq (se_var 1)) ⟨rfl, by decide +kernel, by decide +kernel, by decide +kernel, by decide +kernel⟩ (sg_nm 4) st_nil (se_tup (sa_cons (se_bi .len (sa_cons (se_var 4) sa_nil)) (sa_cons (se_var 4) sa_nil))))) sa_nil))) ⟨rfl, by decide +kernel, by decide +kernel, by decide +kernel, by decide +kernel⟩ (sg_nm 3) st_nil (se_sub (se_var 3) se_int))))
  sss_nil)))
theorem b__law_whole : SSs ⟨N__law_whole, defScope s__law_whole, fun _ => true, ft⟩ W G wn (defBody s__law_whole) u__law_whole :=
  (sss_cons (ss_ret (se_lc (Lc.mk (own := [("part", 2)]) (si_seq (se_call 13 1 rfl (sa_cons (se_var 0) sa_nil))) ⟨rfl, by decide +kernel, by decide +kernel, by decide +kernel, by decide +kernel⟩ (sg_nm 2) (st_one (se_not (se_bi .any (sa_cons (se_lc (Lc.mk (own := [("columns", 3), ("column", 4)]) (si_seq (se_var 1)) ⟨rfl, by decide +kernel, by decide +kernel, by decide +kernel, by decide +kernel⟩ (sg_tp (sgs_cons (sg_nm 3) (sgs_cons (sg_nm 4) sgs_nil))) st_nil (se_and (sb_and (se_cmp .notIn (se_var 4) (se_var 2)) (sb_and1 (se_bi .all (sa_cons (se_lc (Lc.mk (own := [("name", 5)]) (si_seq (se_var 3)) ⟨rfl, by decide +kernel, by decide +kernel, by decide +kernel, by decide +kernel⟩ (sg_nm 5) st_nil (se_cmp .in_ (se_var 5) (se_var 2)))) sa_nil))))))) sa_nil)))) (se_var 2))))
  sss_nil)
theorem b__law_tells : SSs ⟨N__law_tells, defScope s__law_tells, fun _ => true, ft⟩ W G wn (defBody s__law_tells) u__law_tells :=
  (sss_cons (ss_ret (se_bi .all (sa_cons (se_lc (Lc.mk (own := [("whole", 3)]) (si_seq (se_var 0)) ⟨rfl, by decide +kernel, by decide +kernel, by decide +kernel, by decide +kernel⟩ (sg_nm 3) (st_one (se_bi .all (sa_cons (se_lc (Lc.mk (own := [("one", 4)]) (si_seq (se_var 1)) ⟨rfl, by decide +kernel, by decide +kernel, by decide +kernel, by decide +kernel⟩ (sg_nm 4) st_nil (se_cmp .in_ (se_var 4) (se_var 3)))) sa_nil))) (se_cmp .in_ (se_var 2) (se_var 3)))) sa_nil)))
  sss_nil)
theorem b_law : SSs ⟨N_law, defScope s_law, fun _ => true, ft⟩ W G wn ((defBody s_law).tail) u_law :=
  (sss_cons (ss_for (si_rng1 (sa_cons se_int sa_nil)) (sg_nm 2) (sss_cons (ss_set 3 false (se_sli (se_tup (sa_cons se_str (sa_cons se_str (sa_cons se_str (sa_cons se_str (sa_cons se_str sa_nil)))))) so_none (so_some (se_bin .add se_int (se_call 10 2 rfl (sa_cons (se_var 1) (sa_cons se_int sa_nil)))))))
  (sss_cons (ss_set 4 false (se_call 12 3 rfl (sa_cons (se_var 1) (sa_cons (se_var 3) (sa_cons se_int sa_nil)))))
  (sss_cons (ss_set 5 true sf_dnew)
  (sss_cons (ss_for (si_rng1 (sa_cons (se_bin .add se_int (se_call 10 2 rfl (sa_cons (se_var 1) (sa_cons se_int sa_nil)))) sa_nil)) (sg_nm 6) (sss_cons (ss_dput 5 se_bl (se_bi .tuple (sa_cons (se_lc (Lc.mk (own := [("name", 19)]) (si_seq (se_var 3)) ⟨rfl, by decide +kernel, by decide +kernel, by decide +kernel, by decide +kernel⟩ (sg_nm 19) (st_one (se_cmp .eq (se_call 10 2 rfl (sa_cons (se_var 1) (sa_cons se_int sa_nil))) se_int)) (se_var 19))) sa_nil)))
  sss_nil))
  (sss_cons (ss_dput 5 se_bl (se_bi .tuple (sa_cons (se_lc (Lc.mk (own := [("name", 19)]) (si_seq (se_var 3)) ⟨rfl, by decide +kernel, by decide +kernel, by decide +kernel, by decide +kernel⟩ (sg_nm 19) (st_one (se_not (se_bi .any (sa_cons (se_lc (Lc.mk (own := [("part", 13)]) (si_seq (se_var 5)) ⟨rfl, by decide +kernel, by decide +kernel, by decide +kernel, by decide +kernel⟩ (sg_nm 13) st_nil (se_cmp .in_ (se_var 19) (se_var 13)))) sa_nil)))) (se_var 19))) sa_nil)))
  (sss_cons (ss_set 5 false (se_bi .tuple (sa_cons (se_bi .sorted (sa_cons (se_lc (Lc.mk (own := [("part", 13)]) (si_seq (se_var 5)) ⟨rfl, by decide +kernel, by decide +kernel, by decide +kernel, by decide +kernel⟩ (sg_nm 13) (st_one (se_cmp .ne (se_var 13) (se_tup sa_nil))) (se_var 13))) sa_nil)) sa_nil)))
  (sss_cons (ss_set 7 false (se_call 14 2 rfl (sa_cons (se_var 3) (sa_cons (se_var 4) sa_nil))))
  (sss_cons (ss_set 8 true (sf_lst sa_nil))
  (sss_cons (ss_for (si_seq (se_call 13 1 rfl (sa_cons (se_var 3) sa_nil))) (sg_nm 9) (sss_cons (ss_if (se_bi .all (sa_cons (se_lc (Lc.mk (own := [("part", 13)]) (si_seq (se_var 5)) ⟨rfl, by decide +kernel, by decide +kernel, by decide +kernel, by decide +kernel⟩ (sg_nm 13) st_nil (se_bi .any (sa_cons (se_lc (Lc.mk (own := [("whole", 20)]) (si_seq (se_var 7)) ⟨rfl, by decide +kernel, by decide +kernel, by decide +kernel, by decide +kernel⟩ (sg_nm 20) st_nil (se_cmp .eq (se_lc (Lc.mk (own := [("name", 19)]) (si_seq (se_var 20)) ⟨rfl, by decide +kernel, by decide +kernel, by decide +kernel, by decide +kernel⟩ (sg_nm 19) (st_one (se_cmp .in_ (se_var 19) (se_var 13))) (se_var 19))) (se_lc (Lc.mk (own := [("name", 19)]) (si_seq (se_var 9)) ⟨rfl, by decide +kernel, by decide +kernel, by decide +kernel, by decide +kernel⟩ (sg_nm 19) (st_one (se_cmp .in_ (se_var 19) (se_var 13))) (se_var 19)))))) sa_nil)))) sa_nil)) (sss_cons (ss_app 8 (se_var 9))
  sss_nil) sss_nil)
  sss_nil))
  (sss_cons (ss_for (si_seq (se_call 13 1 rfl (sa_cons (se_var 3) sa_nil))) (sg_nm 10) (sss_cons (ss_fz [8] (ss_set 14 false (se_bi .tuple (sa_cons (se_lc (Lc.mk (own := [("name", 19)]) (si_seq (se_var 3)) ⟨rfl, by decide +kernel, by decide +kernel, by decide +kernel, by decide +kernel⟩ (sg_nm 19) (st_one (se_call 15 3 rfl (sa_cons (se_var 8) (sa_cons (se_var 10) (sa_cons (se_var 19) sa_nil))))) (se_var 19))) sa_nil))))
  (sss_cons (ss_fz [5] (ss_set 15 false (se_call 6 3 rfl (sa_cons (se_var 5) (sa_cons (se_var 4) (sa_cons (se_var 10) sa_nil))))))
  (sss_cons (ss_if (se_or (sb_or (se_not (se_call 11 2 rfl (sa_cons (se_var 15) (sa_cons (se_var 14) sa_nil)))) (sb_or1 (se_not (se_bi .all (sa_cons (se_lc (Lc.mk (own := [("name", 19)]) (si_seq (se_var 15)) ⟨rfl, by decide +kernel, by decide +kernel, by decide +kernel, by decide +kernel⟩ (sg_nm 19) st_nil (se_cmp .in_ (se_var 19) (se_call 0 2 rfl (sa_cons (se_var 10) (sa_cons (se_var 4) sa_nil)))))) sa_nil)))))) (sss_cons (ss_ret se_bl)
  sss_nil) sss_nil)
  sss_nil))))
  (sss_cons (ss_fz [8] (ss_set 11 false (se_bi .tuple (sa_cons (se_lc (Lc.mk (own := [("columns", 16), ("column", 17)]) (si_seq (se_var 4)) ⟨rfl, by decide +kernel, by decide +kernel, by decide +kernel, by decide +kernel⟩ (sg_tp (sgs_cons (sg_nm 16) (sgs_cons (sg_nm 17) sgs_nil))) (st_one (se_not (se_call 15 3 rfl (sa_cons (se_var 8) (sa_cons (se_var 16) (sa_cons (se_var 17) sa_nil)))))) (se_tup (sa_cons (se_var 16) (sa_cons (se_var 17) sa_nil))))) sa_nil))))
  (sss_cons (ss_fz [5] (ss_if (se_or (sb_or (se_not (se_call 11 2 rfl (sa_cons (se_call 7 2 rfl (sa_cons (se_var 5) (sa_cons (se_var 4) sa_nil))) (sa_cons (se_var 11) sa_nil)))) (sb_or1 (se_cmp .ne (se_call 7 2 rfl (sa_cons (se_tup (sa_cons (se_var 3) sa_nil)) (sa_cons (se_var 4) sa_nil))) (se_tup sa_nil))))) (sss_cons (ss_ret se_bl)
  sss_nil) sss_nil))
  (sss_cons (ss_set 12 true (sf_lst sa_nil))
  (sss_cons (ss_fz [5] (ss_for (si_seq (se_var 5)) (sg_nm 13) (sss_cons (ss_ext 12 (se_call 4 2 rfl (sa_cons (se_var 13) (sa_cons (se_var 4) sa_nil))))
  sss_nil)))
  (sss_cons (ss_set 12 false (se_bi .tuple (sa_cons (se_sset (se_var 12)) sa_nil)))
  (sss_cons (ss_fz [12] (ss_if (se_cmp .ne (se_call 5 2 rfl (sa_cons (se_var 12) (sa_cons (se_var 4) sa_nil))) (se_cmp .eq (se_var 11) (se_tup sa_nil))) (sss_cons (ss_ret se_bl)
  sss_nil) sss_nil))
  (sss_cons (ss_for (si_seq (se_var 11)) (sg_tp (sgs_cons (sg_nm 16) (sgs_cons (sg_nm 17) sgs_nil))) (sss_cons (ss_setLc 18 false (Lc.mk (own := [("one", 9)]) (si_seq (se_var 8)) ⟨rfl, by decide +kernel, by decide +kernel, by decide +kernel, by decide +kernel⟩ (sg_nm 9) (st_one (se_and (sb_and (se_bi .all (sa_cons (se_lc (Lc.mk (own := [("name", 19)]) (si_seq (se_var 16)) ⟨rfl, by decide +kernel, by decide +kernel, by decide +kernel, by decide +kernel⟩ (sg_nm 19) st_nil (se_cmp .in_ (se_var 19) (se_var 9)))) sa_nil)) (sb_and1 (se_cmp .notIn (se_var 17) (se_var 9)))))) (se_var 9)))
  (sss_cons (ss_fz [12] (ss_if (se_or (sb_or (se_cmp .eq (se_var 18) (se_lst sa_nil)) (sb_or1 (se_cmp .isNot (se_call 1 3 rfl (sa_cons (se_var 12) (sa_cons (se_var 16) (sa_cons (se_var 17) sa_nil)))) se_bl)))) (sss_cons (ss_ret se_bl)
  sss_nil) sss_nil))
  sss_nil)))
  sss_nil))))))))))))))))))
  (sss_cons (ss_ret se_bl)
  sss_nil))
end
section
variable {P : Program} {w : World} {K : PySem.W.Frag} {mg : Str → Option Value} {base : Heap}
theorem sc_box : FnScope ["script"] ["script"] (defScope s__law_box) := ⟨rfl, rfl, rfl, by decide +kernel, rfl, by decide +kernel, by decide +kernel⟩
theorem ok_box {f : Addr} {fd : FuncData} (F : L2.Fun K "_law_box" "_law_box" s__law_box f fd) (z1 : mg "list" = none) (z2 : mg "len" = none) : FnOk P w K mg base CX0 1 f fd ["script"] (spBox K) := by
  refine F.ok sc_box (fun vs H Q E h => ?_) (fun cdv A outer s H vs Q E hr h => ⟨tBox K, ?_, box_run h⟩)
  · obtain ⟨a, ns, rfl, _⟩ := h
    rfl
  · exact pss_one (ps_ret (pe_lst (pa_cons (pe_callTy call_list_of rfl z1 boot_list (pa_cons (pe_slice sl_list (pv 0) po_none (po_some pe_int)) pa_nil)) (pa_cons pe_int (pa_cons (pe_op op_add pe_int (pe_callB call_len_seq rfl z2 boot_len (pa_cons (pv 0) pa_nil))) pa_nil)))))
theorem sc_load : FnScope ["box", "cells", "cell", "size", "first", "second"] ["box"] (defScope s__law_load) := ⟨rfl, rfl, rfl, by decide +kernel, rfl, by decide +kernel, by decide +kernel⟩
theorem ok_load {f : Addr} {fd : FuncData} (ba ca : Addr) (F : L2.Fun K "_law_load" "_law_load" s__law_load f fd) (z1 : mg "int" = none) (z2 : mg "len" = none) : FnOk P w K mg base CX0 1 f fd ["box"] (spLoad ba ca) := by
  refine F.ok sc_load (fun vs H Q E h => ?_) (fun cdv A outer s H vs Q E hr h => ⟨tLoad K, ?_, ?_⟩)
  · obtain ⟨_, _, _, _, _, _, rfl, _⟩ := h
    rfl
  · have bx : ∀ {X : Cx} {j : Int} {k0 : Nat} {p1 p2 p3 : Pos}, X.N[0]? = some ("box" : Str) → Vis X.env.scope "box" → PE X (.Subscript (.Name "box" p1) (.Constant (.int j) k0 p2) p3) (iB X.K j) := fun h1 h2 => pe_ix ix_seq (pe_var h1 h2) pe_int (fun _ _ => rfl)
    exact pss_cons (ps_set (i := 1) sc_load.nd rfl (Or.inl rfl) (bx rfl (Or.inl rfl)))
      (pss_cons (ps_if (pt_cmpR op_gt (pe_callB call_len_seq rfl z2 boot_len (pa_cons (pv 1) pa_nil)) pe_int (nomark _))
        (pss_cons (ps_set (i := 2) sc_load.nd rfl (Or.inl rfl) (pe_callTy call_int1 rfl z1 boot_int (pa_cons (pe_bm PySem.F.plainAttrs_list PySem.F.slot_list_pop PySem.F.type_list_pop mt_popAt (pv 1) (pa_cons pe_int pa_nil)) pa_nil)))
        (pss_cons (ps_set (i := 3) sc_load.nd rfl (Or.inl rfl) (pe_ifExp (pt_cmpR op_ge (pv 2) pe_int (nomark _)) (pe_op op_mul pe_int (pv 2)) (pe_op op_sub (pe_op op_mul (pe_un un_neg pe_int) (pv 2)) pe_int)))
        (pss_cons (ps_if (pt_cmpR op_ge (pv 3) pe_int (nomark _)) (pss_one (ps_ret (pv 3))) pss_nil)
        (pss_one (ps_asg (pe_op op_mod (pe_callTy call_int1 rfl z1 boot_int (pa_cons (pe_op op_add (pe_op op_add (pe_op op_mul (bx rfl (Or.inl rfl)) pe_int) (pe_op op_mul (pv 3) pe_int)) pe_int) pa_nil)) pe_int) (pg_sub (pv 0) pe_int set_list)))))) pss_nil)
      (pss_cons (ps_set (i := 4) sc_load.nd rfl (Or.inl rfl) (pe_op op_mod (pe_callTy call_int1 rfl z1 boot_int (pa_cons (pe_op op_add (pe_op op_mul (bx rfl (Or.inl rfl)) pe_int) pe_int) pa_nil)) pe_int))
      (pss_cons (ps_set (i := 5) sc_load.nd rfl (Or.inl rfl) (pe_op op_mod (pe_callTy call_int1 rfl z1 boot_int (pa_cons (pe_op op_add (pe_op op_mul (pv 4) pe_int) pe_int) pa_nil)) pe_int))
      (pss_cons (ps_asg (pe_op op_mod (pe_callTy call_int1 rfl z1 boot_int (pa_cons (pe_op op_add (pe_op op_mul (pv 5) pe_int) pe_int) pa_nil)) pe_int) (pg_sub (pv 0) pe_int set_list))
      (pss_one (ps_ret (pe_op op_add (pe_op op_add (pe_op op_mul (pv 4) pe_int) (pe_op op_mul (pv 5) pe_int)) (bx rfl (Or.inl rfl)))))))))
  · obtain ⟨W, cells, b1, b2, rfl, rfl, rfl, B, q⟩ := h
    exact load_run B q
theorem sc_draw : FnScope ["box", "many", "digit"] ["box", "many"] (defScope s__law_draw) := ⟨rfl, rfl, rfl, by decide +kernel, rfl, by decide +kernel, by decide +kernel⟩
theorem ok_draw {f fL : Addr} {fd fdL : FuncData} (ba ca : Addr) (F : L2.Fun K "_law_draw" "_law_draw" s__law_draw f fd) (FL : FnOk P w K mg base CX0 1 fL fdL ["box"] (spLoad ba ca)) (mL : mg "_law_load" = some (.ref fL)) (kL : PySem.W.keepIn K (.ref fL) = true) (bL : L2.Binds K fdL ["box"] []) (z1 : mg "int" = none) :
    FnOk P w K mg base CX0 2 f fd ["box", "many"] fun vs H Q E => ∃ (W : Wd) (s : T) (b1 b2 m : Int) (d : Int) (s' : T), W.ba = ba ∧ W.ca = ca ∧ vs = [.ref ba, .int m] ∧ s.2 = [b1, b2] ∧ Tp W s H ∧ drD (s.1, [b1, b2]) m = some (d, s') ∧ (∀ H' c1 c2, s' = (s'.1, [c1, c2]) → Bx W H s'.1 c1 c2 H' → Q (.int d) H') := by
  refine F.ok sc_draw (fun vs H Q E h => ?_) (fun cdv A outer s H vs Q E hr h => ⟨tDraw K (tCall (spLoad ba ca) [] E0 (tCons (tVar 0) tNil)), ?_, ?_⟩)
  · obtain ⟨_, _, _, _, _, _, _, _, _, rfl, _⟩ := h
    rfl
  · have bx : ∀ {X : Cx} {j : Int} {k0 : Nat} {p1 p2 p3 : Pos}, X.N[0]? = some ("box" : Str) → Vis X.env.scope "box" → PE X (.Subscript (.Name "box" p1) (.Constant (.int j) k0 p2) p3) (iB X.K j) := fun h1 h2 => pe_ix ix_seq (pe_var h1 h2) pe_int (fun _ _ => rfl)
    exact pss_cons (ps_if (pt_cmpR op_lt (bx rfl (Or.inl rfl)) (pv 1) (nomark _)) (pss_one (ps_asg (pe_call FL hr rfl mL kL bL .nil pass0 (pa_cons (pv 0) pa_nil)) (pg_sub (pv 0) pe_int set_list))) pss_nil)
      (pss_cons (ps_set (i := 2) sc_draw.nd rfl (Or.inl rfl) (pe_op op_mod (pe_callTy call_int1 rfl z1 boot_int (pa_cons (bx rfl (Or.inl rfl)) pa_nil)) (pv 1)))
      (pss_cons (ps_asg (pe_op op_fdiv (bx rfl (Or.inl rfl)) (pv 1)) (pg_sub (pv 0) pe_int set_list))
      (pss_one (ps_ret (pv 2)))))
  · obtain ⟨W, s0, b1, b2, m, d, s', rfl, rfl, rfl, e1, t, e2, q⟩ := h
    exact draw_run (Bx.of t e1) e2 q
end
section
variable {P : Program} {w : World} {K : PySem.W.Frag} {mg : Str → Option Value} {base : Heap} {wn : Nat}
theorem sc_told_names : FnScope N_told_names ["names", "rules"] (defScope s_told_names) := ⟨rfl, rfl, rfl, by decide +kernel, rfl, by decide +kernel, by decide +kernel⟩
theorem sc_does_tell : FnScope N_does_tell ["rules", "names", "name"] (defScope s_does_tell) := ⟨rfl, rfl, rfl, by decide +kernel, rfl, by decide +kernel, by decide +kernel⟩
theorem sc_all_parts_of : FnScope N_all_parts_of ["names"] (defScope s_all_parts_of) := ⟨rfl, rfl, rfl, by decide +kernel, rfl, by decide +kernel, by decide +kernel⟩
theorem sc_least_tellers : FnScope N_least_tellers ["names", "rules", "name"] (defScope s_least_tellers) := ⟨rfl, rfl, rfl, by decide +kernel, rfl, by decide +kernel, by decide +kernel⟩
theorem sc_kept_rules : FnScope N_kept_rules ["names", "rules"] (defScope s_kept_rules) := ⟨rfl, rfl, rfl, by decide +kernel, rfl, by decide +kernel, by decide +kernel⟩
theorem sc_same_rules : FnScope N_same_rules ["one", "other"] (defScope s_same_rules) := ⟨rfl, rfl, rfl, by decide +kernel, rfl, by decide +kernel, by decide +kernel⟩
theorem sc_told_by_parts : FnScope N_told_by_parts ["parts", "rules", "names"] (defScope s_told_by_parts) := ⟨rfl, rfl, rfl, by decide +kernel, rfl, by decide +kernel, by decide +kernel⟩
theorem sc_lost_rules : FnScope N_lost_rules ["parts", "rules"] (defScope s_lost_rules) := ⟨rfl, rfl, rfl, by decide +kernel, rfl, by decide +kernel, by decide +kernel⟩
theorem sc__law_same : FnScope N__law_same ["a", "b"] (defScope s__law_same) := ⟨rfl, rfl, rfl, by decide +kernel, rfl, by decide +kernel, by decide +kernel⟩
theorem sc__law_rules : FnScope N__law_rules ["box", "names", "many"] (defScope s__law_rules) := ⟨rfl, rfl, rfl, by decide +kernel, rfl, by decide +kernel, by decide +kernel⟩
theorem sc__law_parts : FnScope N__law_parts ["names"] (defScope s__law_parts) := ⟨rfl, rfl, rfl, by decide +kernel, rfl, by decide +kernel, by decide +kernel⟩
theorem sc__law_whole : FnScope N__law_whole ["names", "rules"] (defScope s__law_whole) := ⟨rfl, rfl, rfl, by decide +kernel, rfl, by decide +kernel, by decide +kernel⟩
theorem sc__law_tells : FnScope N__law_tells ["wholes", "part", "name"] (defScope s__law_tells) := ⟨rfl, rfl, rfl, by decide +kernel, rfl, by decide +kernel, by decide +kernel⟩
theorem sc_law : FnScope N_law ["script"] (defScope s_law) := ⟨rfl, rfl, rfl, by decide +kernel, rfl, by decide +kernel, by decide +kernel⟩
theorem i_told_names {h : Heap} (X : K.In h) (G : h.Ns mainGlobals mg) (hbt : ∀ x ∈ btN, mg x = none) (d : Dat K "told_names" s_told_names) : Inf P w K mg base (tb wn) "told_names" 0 2 :=
  inf_of X G d rfl sc_told_names (fun _ _ => b_told_names) rfl rfl hbt fun _ _ _ _ _ _ us hl => match us, hl with | [_, _], _ => rfl
theorem i_does_tell {h : Heap} (X : K.In h) (G : h.Ns mainGlobals mg) (hbt : ∀ x ∈ btN, mg x = none) (d : Dat K "does_tell" s_does_tell) : Inf P w K mg base (tb wn) "does_tell" 1 3 :=
  inf_of X G d rfl sc_does_tell (fun _ _ => b_does_tell) rfl rfl hbt fun _ _ _ _ _ _ us hl => match us, hl with | [_, _, _], _ => rfl
theorem i_all_parts_of {h : Heap} (X : K.In h) (G : h.Ns mainGlobals mg) (hbt : ∀ x ∈ btN, mg x = none) (d : Dat K "all_parts_of" s_all_parts_of) : Inf P w K mg base (tb wn) "all_parts_of" 2 1 :=
  inf_of X G d rfl sc_all_parts_of (fun _ _ => b_all_parts_of) rfl rfl hbt fun _ _ _ _ _ _ us hl => match us, hl with | [_], _ => rfl
theorem i_least_tellers {h : Heap} (X : K.In h) (G : h.Ns mainGlobals mg) (hbt : ∀ x ∈ btN, mg x = none) (d : Dat K "least_tellers" s_least_tellers) : Inf P w K mg base (tb wn) "least_tellers" 3 3 :=
  inf_of X G d rfl sc_least_tellers (fun _ _ => b_least_tellers) rfl rfl hbt fun _ _ _ _ _ _ us hl => match us, hl with | [_, _, _], _ => rfl
theorem i_kept_rules {h : Heap} (X : K.In h) (G : h.Ns mainGlobals mg) (hbt : ∀ x ∈ btN, mg x = none) (d : Dat K "kept_rules" s_kept_rules) : Inf P w K mg base (tb wn) "kept_rules" 4 2 :=
  inf_of X G d rfl sc_kept_rules (fun _ _ => b_kept_rules) rfl rfl hbt fun _ _ _ _ _ _ us hl => match us, hl with | [_, _], _ => rfl
theorem i_same_rules {h : Heap} (X : K.In h) (G : h.Ns mainGlobals mg) (hbt : ∀ x ∈ btN, mg x = none) (d : Dat K "same_rules" s_same_rules) : Inf P w K mg base (tb wn) "same_rules" 5 2 :=
  inf_of X G d rfl sc_same_rules (fun _ _ => b_same_rules) rfl rfl hbt fun _ _ _ _ _ _ us hl => match us, hl with | [_, _], _ => rfl
theorem i_told_by_parts {h : Heap} (X : K.In h) (G : h.Ns mainGlobals mg) (hbt : ∀ x ∈ btN, mg x = none) (d : Dat K "told_by_parts" s_told_by_parts) : Inf P w K mg base (tb wn) "told_by_parts" 6 3 :=
  inf_of X G d rfl sc_told_by_parts (fun _ _ => b_told_by_parts) rfl rfl hbt fun _ _ _ _ _ _ us hl => match us, hl with | [_, _, _], _ => rfl
theorem i_lost_rules {h : Heap} (X : K.In h) (G : h.Ns mainGlobals mg) (hbt : ∀ x ∈ btN, mg x = none) (d : Dat K "lost_rules" s_lost_rules) : Inf P w K mg base (tb wn) "lost_rules" 7 2 :=
  inf_of X G d rfl sc_lost_rules (fun _ _ => b_lost_rules) rfl rfl hbt fun _ _ _ _ _ _ us hl => match us, hl with | [_, _], _ => rfl
theorem i__law_same {h : Heap} (X : K.In h) (G : h.Ns mainGlobals mg) (hbt : ∀ x ∈ btN, mg x = none) (d : Dat K "_law_same" s__law_same) : Inf P w K mg base (tb wn) "_law_same" 11 2 :=
  inf_of X G d rfl sc__law_same (fun _ _ => b__law_same) rfl rfl hbt fun _ _ _ _ _ _ us hl => match us, hl with | [_, _], _ => rfl
theorem i__law_rules {h : Heap} (X : K.In h) (G : h.Ns mainGlobals mg) (hbt : ∀ x ∈ btN, mg x = none) (d : Dat K "_law_rules" s__law_rules) : Inf P w K mg base (tb wn) "_law_rules" 12 3 :=
  inf_of X G d rfl sc__law_rules (fun _ _ => b__law_rules) rfl rfl hbt fun _ _ _ _ _ _ us hl => match us, hl with | [_, _, _], _ => rfl
theorem i__law_parts {h : Heap} (X : K.In h) (G : h.Ns mainGlobals mg) (hbt : ∀ x ∈ btN, mg x = none) (d : Dat K "_law_parts" s__law_parts) : Inf P w K mg base (tb wn) "_law_parts" 13 1 :=
  inf_of X G d rfl sc__law_parts (fun _ _ => b__law_parts) rfl rfl hbt fun _ _ _ _ _ _ us hl => match us, hl with | [_], _ => rfl
theorem i__law_whole {h : Heap} (X : K.In h) (G : h.Ns mainGlobals mg) (hbt : ∀ x ∈ btN, mg x = none) (d : Dat K "_law_whole" s__law_whole) : Inf P w K mg base (tb wn) "_law_whole" 14 2 :=
  inf_of X G d rfl sc__law_whole (fun _ _ => b__law_whole) rfl rfl hbt fun _ _ _ _ _ _ us hl => match us, hl with | [_, _], _ => rfl
theorem i__law_tells {h : Heap} (X : K.In h) (G : h.Ns mainGlobals mg) (hbt : ∀ x ∈ btN, mg x = none) (d : Dat K "_law_tells" s__law_tells) : Inf P w K mg base (tb wn) "_law_tells" 15 3 :=
  inf_of X G d rfl sc__law_tells (fun _ _ => b__law_tells) rfl rfl hbt fun _ _ _ _ _ _ us hl => match us, hl with | [_, _, _], _ => rfl
theorem i__law_draw {h : Heap} (X : K.In h) (G : h.Ns mainGlobals mg) (hbt : ∀ x ∈ btN, mg x = none) (d : Dat K "_law_draw" s__law_draw) (e : Dat K "_law_load" s__law_load) : Inf P w K mg base (tb wn) "_law_draw" 10 2 := by
  obtain ⟨f, fd, a, F, k⟩ := d
  obtain ⟨fL, fdL, aL, FL, kL⟩ := e
  have z1 := hbt "int" (by decide +kernel)
  have z2 := hbt "len" (by decide +kernel)
  exact ⟨f, fd, ["box", "many"], PySem.W.mg_of X G a, k, F.binds fun _ _ _ _ _ _ us hl => match us, hl with | [_, _], _ => rfl, fun n _ ba ca =>
    draw_ok rfl ba ca ((ok_draw ba ca F (ok_load ba ca FL z1 z2) (PySem.W.mg_of X G aL) kL (FL.binds fun _ _ _ _ _ _ us hl => match us, hl with | [_], _ => rfl) z1).mono (by decide)) n⟩
theorem infs {h : Heap} (X : K.In h) (G : h.Ns mainGlobals mg) (hbt : ∀ x ∈ btN, mg x = none) (d_told_names : Dat K "told_names" s_told_names) (d_does_tell : Dat K "does_tell" s_does_tell) (d_all_parts_of : Dat K "all_parts_of" s_all_parts_of) (d_least_tellers : Dat K "least_tellers" s_least_tellers) (d_kept_rules : Dat K "kept_rules" s_kept_rules) (d_same_rules : Dat K "same_rules" s_same_rules) (d_told_by_parts : Dat K "told_by_parts" s_told_by_parts) (d_lost_rules : Dat K "lost_rules" s_lost_rules) (d__law_box : Dat K "_law_box" s__law_box) (d__law_load : Dat K "_law_load" s__law_load) (d__law_draw : Dat K "_law_draw" s__law_draw) (d__law_same : Dat K "_law_same" s__law_same) (d__law_rules : Dat K "_law_rules" s__law_rules) (d__law_parts : Dat K "_law_parts" s__law_parts) (d__law_whole : Dat K "_law_whole" s__law_whole) (d__law_tells : Dat K "_law_tells" s__law_tells) (d_law : Dat K "law" s_law) : ∀ x i n, ft x = some (i, n) → Inf P w K mg base (tb wn) x i n := by
  refine ft_all (p := fun x i n => Inf P w K mg base (tb wn) x i n) ?_
  simp only [List.forall_mem_cons]
  exact ⟨i_told_names X G hbt d_told_names, i_does_tell X G hbt d_does_tell, i_all_parts_of X G hbt d_all_parts_of, i_least_tellers X G hbt d_least_tellers, i_kept_rules X G hbt d_kept_rules, i_same_rules X G hbt d_same_rules, i_told_by_parts X G hbt d_told_by_parts, i_lost_rules X G hbt d_lost_rules, i__law_draw X G hbt d__law_draw d__law_load, i__law_same X G hbt d__law_same, i__law_rules X G hbt d__law_rules, i__law_parts X G hbt d__law_parts, i__law_whole X G hbt d__law_whole, i__law_tells X G hbt d__law_tells, fun _ h => nomatch h⟩
theorem law_fn {fa : Addr} {h : Heap} (X : K.In h) (G : h.Ns mainGlobals mg) (hfa : mg "law" = some (.ref fa)) (hbt : ∀ x ∈ btN, mg x = none) (d_told_names : Dat K "told_names" s_told_names) (d_does_tell : Dat K "does_tell" s_does_tell) (d_all_parts_of : Dat K "all_parts_of" s_all_parts_of) (d_least_tellers : Dat K "least_tellers" s_least_tellers) (d_kept_rules : Dat K "kept_rules" s_kept_rules) (d_same_rules : Dat K "same_rules" s_same_rules) (d_told_by_parts : Dat K "told_by_parts" s_told_by_parts) (d_lost_rules : Dat K "lost_rules" s_lost_rules) (d__law_box : Dat K "_law_box" s__law_box) (d__law_load : Dat K "_law_load" s__law_load) (d__law_draw : Dat K "_law_draw" s__law_draw) (d__law_same : Dat K "_law_same" s__law_same) (d__law_rules : Dat K "_law_rules" s__law_rules) (d__law_parts : Dat K "_law_parts" s__law_parts) (d__law_whole : Dat K "_law_whole" s__law_whole) (d__law_tells : Dat K "_law_tells" s__law_tells) (d_law : Dat K "law" s_law) (lv wn : Nat)
    (law : ∀ (cells : List Int) (b : Int), cells.length ≤ 63 → ∃ s', out (exs ((tb wn).at lv) wn u_law e_law (cells, [0, b])) = some (.bl true, s')) :
    ∃ fd : FuncData, (∀ (s : Shared) (v : Value), BindsTo s fd ⟨[v], []⟩ [("script", v)]) ∧ ∀ base : Heap, K.In base → base.Ns mainGlobals mg → FnOk P w K mg base CX0 (lv + 3) fa fd ["script"] (Ip.spLaw K) := by
  obtain ⟨fL, fdL, aL, FL, kL⟩ := id d_law
  obtain ⟨fB, fdB, aB, FB, kB⟩ := id d__law_box
  have e := hfa.symm.trans (PySem.W.mg_of X G aL)
  cases e
  have bl := FL.binds (ps := ["script"]) fun _ _ _ _ _ _ us hl => match us, hl with | [_], _ => rfl
  refine ⟨fdL, ?_, fun base _ _ => ?_⟩
  · obtain ⟨oc, od, kV, doc, pm, an, cdv, ct, osl, e1, _⟩ := FL.ex
    rw [e1]
    exact fun s v => .of_eq rfl
  · exact law_ok (B := tb wn) (ib := 1) FL sc_law rfl rfl (by first | exact Or.inl rfl | exact Or.inr rfl) (by first | exact Or.inl rfl | exact Or.inr rfl) rfl rfl (fun _ _ => b_law) hbt (all_ok (infs X G hbt d_told_names d_does_tell d_all_parts_of d_least_tellers d_kept_rules d_same_rules d_told_by_parts d_lost_rules d__law_box d__law_load d__law_draw d__law_same d__law_rules d__law_parts d__law_whole d__law_tells d_law) lv) (ok_box FB (hbt "list" (by decide +kernel)) (hbt "len" (by decide +kernel))) (PySem.W.mg_of X G aB) kB
      (FB.binds fun _ _ _ _ _ _ us hl => match us, hl with | [_], _ => rfl) law
theorem hbt_of {h : Heap} (X : K.In h) (G : h.Ns mainGlobals mg) (z_len : PySem.W.nsIn K mainGlobals "len" = some none) (z_int : PySem.W.nsIn K mainGlobals "int" = some none) (z_str : PySem.W.nsIn K mainGlobals "str" = some none) (z_all : PySem.W.nsIn K mainGlobals "all" = some none) (z_any : PySem.W.nsIn K mainGlobals "any" = some none) (z_list : PySem.W.nsIn K mainGlobals "list" = some none) (z_tuple : PySem.W.nsIn K mainGlobals "tuple" = some none) (z_sorted : PySem.W.nsIn K mainGlobals "sorted" = some none) (z_sum : PySem.W.nsIn K mainGlobals "sum" = some none) (z_max : PySem.W.nsIn K mainGlobals "max" = some none) (z_min : PySem.W.nsIn K mainGlobals "min" = some none) (z_isinstance : PySem.W.nsIn K mainGlobals "isinstance" = some none) (z_bool : PySem.W.nsIn K mainGlobals "bool" = some none) (z_range : PySem.W.nsIn K mainGlobals "range" = some none) (z_zip : PySem.W.nsIn K mainGlobals "zip" = some none) (z_enumerate : PySem.W.nsIn K mainGlobals "enumerate" = some none) (z_dict : PySem.W.nsIn K mainGlobals "dict" = some none) (z_set : PySem.W.nsIn K mainGlobals "set" = some none) : ∀ x ∈ btN, mg x = none := by
  simp only [btN, List.forall_mem_cons]
  exact ⟨PySem.W.mg_none_of X G z_len, PySem.W.mg_none_of X G z_int, PySem.W.mg_none_of X G z_str, PySem.W.mg_none_of X G z_all, PySem.W.mg_none_of X G z_any, PySem.W.mg_none_of X G z_list, PySem.W.mg_none_of X G z_tuple, PySem.W.mg_none_of X G z_sorted, PySem.W.mg_none_of X G z_sum, PySem.W.mg_none_of X G z_max, PySem.W.mg_none_of X G z_min, PySem.W.mg_none_of X G z_isinstance, PySem.W.mg_none_of X G z_bool, PySem.W.mg_none_of X G z_range, PySem.W.mg_none_of X G z_zip, PySem.W.mg_none_of X G z_enumerate, PySem.W.mg_none_of X G z_dict, PySem.W.mg_none_of X G z_set, fun _ h => nomatch h⟩
end
end Law

/-! PuE: data of a kind: by an encoding. -/
namespace Ip
theorem cano_pl : ∀ (n : Nat) (d : D), cano n d = true → pl n d = true
  | n, .int _, _ => by cases n <;> rfl
  | n, .str _, _ => by cases n <;> rfl
  | n + 1, .tup xs, h => by
    simp only [cano, pl, List.all_eq_true] at h ⊢
    exact fun x hx => cano_pl n x (h x hx)
  | 0, .tup _, h | 0, .non, h | 0, .bl _, h | 0, .lst _, h | 0, .dic _, h | 0, .set _, h | 0, .box, h | 0, .fn _, h => by simp [cano] at h
  | n + 1, .non, h | n + 1, .bl _, h | n + 1, .lst _, h | n + 1, .dic _, h | n + 1, .set _, h | n + 1, .box, h | n + 1, .fn _, h => by simp [cano] at h
theorem cano_mono : ∀ (n m : Nat) (d : D), n ≤ m → cano n d = true → cano m d = true
  | n, m, .int _, _, _ => by cases m <;> rfl
  | n, m, .str _, _, _ => by cases m <;> rfl
  | n + 1, m + 1, .tup xs, hn, h => by
    simp only [cano, List.all_eq_true] at h ⊢
    exact fun x hx => cano_mono n m x (by omega) (h x hx)
  | n + 1, 0, .tup xs, hn, h => by omega
  | 0, _, .tup _, _, h | 0, _, .non, _, h | 0, _, .bl _, _, h | 0, _, .lst _, _, h | 0, _, .dic _, _, h | 0, _, .set _, _, h | 0, _, .box, _, h | 0, _, .fn _, _, h => by simp [cano] at h
  | n + 1, _, .non, _, h | n + 1, _, .bl _, _, h | n + 1, _, .lst _, _, h | n + 1, _, .dic _, _, h | n + 1, _, .set _, _, h | n + 1, _, .box, _, h | n + 1, _, .fn _, _, h => by simp [cano] at h
theorem dec_any {p : Prop} (i j : Decidable p) : @decide p i = @decide p j := by congr
structure En {α : Type} (en : α → D) : Prop where
  inj : ∀ a b, en a = en b → a = b
  can : ∀ a, cano 5 (en a) = true
  al : ∀ a b, alikeD (en a) (en b) = true
  ky : (∀ a, isKey (en a) = true) ∨ (∀ a, isTK (en a) = true)
section
variable {α : Type} {en : α → D} (h : En en)
include h
theorem En.pl_ {n : Nat} (hn : 5 ≤ n) (a : α) : pl n (en a) = true := pl_mono 5 n _ hn (cano_pl 5 _ (h.can a))
theorem En.all_pl {n : Nat} (hn : 5 ≤ n) (l : List α) : (l.map en).all (pl n) = true := by
  rw [List.all_map, List.all_eq_true]
  exact fun a _ => h.pl_ hn a
theorem En.plT {n : Nat} (hn : 5 ≤ n) (l : List α) : pl (n + 1) (.tup (l.map en)) = true := h.all_pl hn l
theorem En.plL {n : Nat} (hn : 5 ≤ n) (l : List α) : pl (n + 1) (.lst (l.map en)) = true := h.all_pl hn l
variable [DecidableEq α]
theorem En.eq_ (a b : α) : eqD (en a) (en b) = decide (a = b) := by
  rw [Bool.eq_iff_iff, eqD_cano _ _ 5 5 (h.can a) (h.can b), decide_eq_true_iff]
  exact ⟨h.inj a b, fun e => e ▸ rfl⟩
theorem En.eqs : ∀ (l m : List α), eqDs (l.map en) (m.map en) = decide (l = m)
  | [], [] => by simp [eqDs]
  | [], _ :: _ => by simp [eqDs]
  | _ :: _, [] => by simp [eqDs]
  | a :: l, b :: m => by
    simp only [List.map_cons, eqDs, h.eq_, En.eqs l m]
    rw [Bool.eq_iff_iff]
    simp
theorem En.any_ (s : α) : ∀ l : List α, ((l.map en).any fun y => eqD y (en s)) = decide (s ∈ l)
  | [] => by simp
  | t :: l => by
    rw [List.map_cons, List.any_cons, En.any_ s l, h.eq_]
    by_cases c : t = s
    · subst c; simp
    · have c' : ¬ s = t := fun e => c e.symm
      simp [c, c']
theorem En.inT (s : α) (l : List α) [i : Decidable (s ∈ l)] : cmpD .in_ (en s) (.tup (l.map en)) = some (decide (s ∈ l)) := by
  rw [in_tup (h.pl_ (by decide) s) (h.all_pl (by decide) l), h.any_, dec_any _ i]
theorem En.inL (s : α) (l : List α) [i : Decidable (s ∈ l)] : cmpD .in_ (en s) (.lst (l.map en)) = some (decide (s ∈ l)) := by
  rw [in_lst (h.pl_ (by decide) s) (h.all_pl (by decide) l), h.any_, dec_any _ i]
theorem En.ninT (s : α) (l : List α) [i : Decidable (s ∈ l)] : cmpD .notIn (en s) (.tup (l.map en)) = some (!decide (s ∈ l)) := by
  rw [cmp_notIn, ← cmp_in, h.inT, Option.map_some, dec_any _ i]
theorem En.ninL (s : α) (l : List α) [i : Decidable (s ∈ l)] : cmpD .notIn (en s) (.lst (l.map en)) = some (!decide (s ∈ l)) := by
  rw [cmp_notIn, ← cmp_in, h.inL, Option.map_some, dec_any _ i]
theorem En.ceq (a b : α) [i : Decidable (a = b)] : cmpD .eq (en a) (en b) = some (decide (a = b)) := by
  rw [cmp_eq_pl (h.pl_ (by decide) a) (h.pl_ (by decide) b), h.eq_, dec_any _ i]
theorem En.cne (a b : α) [i : Decidable (a = b)] : cmpD .ne (en a) (en b) = some (!decide (a = b)) := by
  rw [cmp_ne_pl (h.pl_ (by decide) a) (h.pl_ (by decide) b), h.eq_, dec_any _ i]
theorem En.ceqL (a b : List α) [i : Decidable (a = b)] : cmpD .eq (.lst (a.map en)) (.lst (b.map en)) = some (decide (a = b)) := by
  rw [cmp_eq_pl (h.plL (by decide) a) (h.plL (by decide) b), eqD, h.eqs, dec_any _ i]
theorem En.ceqT (a b : List α) [i : Decidable (a = b)] : cmpD .eq (.tup (a.map en)) (.tup (b.map en)) = some (decide (a = b)) := by
  rw [cmp_eq_pl (h.plT (by decide) a) (h.plT (by decide) b), eqD, h.eqs, dec_any _ i]
theorem En.cneT (a b : List α) [i : Decidable (a = b)] : cmpD .ne (.tup (a.map en)) (.tup (b.map en)) = some (!decide (a = b)) := by
  rw [cmp_ne_pl (h.plT (by decide) a) (h.plT (by decide) b), eqD, h.eqs, dec_any _ i]
theorem En.cneL (a b : List α) [i : Decidable (a = b)] : cmpD .ne (.lst (a.map en)) (.lst (b.map en)) = some (!decide (a = b)) := by
  rw [cmp_ne_pl (h.plL (by decide) a) (h.plL (by decide) b), eqD, h.eqs, dec_any _ i]
end
/-! ### dicts whose values are all one -/
section
variable {α : Type} {en : α → D} {v : D} {l : List α} {s : α}
def kvE (en : α → D) (v : D) (l : List α) : List (D × D) := l.map fun s => (en s, v)
theorem kvE_keys : dKeys (kvE en v l) = l.map en := by
  unfold dKeys kvE
  rw [List.map_map]
  rfl
theorem kvE_len : (kvE en v l).length = l.length := List.length_map ..
theorem kvE_ok (h : En en) : keysOk (kvE en v l) (en s) = true := by
  unfold keysOk kvE
  rw [Bool.or_eq_true, Bool.and_eq_true, Bool.and_eq_true, List.all_map, List.all_map, List.all_eq_true, List.all_eq_true]
  rcases h.ky with k | k
  · exact .inl ⟨k s, fun a _ => k a⟩
  · exact .inr ⟨k s, fun a _ => k a⟩
variable [DecidableEq α]
/-- with one more -/
def addE (l : List α) (s : α) : List α := if s ∈ l then l else l ++ [s]
theorem kvE_any (h : En en) : ∀ {l : List α}, ((kvE en v l).any fun p => eqD p.1 (en s)) = decide (s ∈ l)
  | [] => by simp [kvE]
  | t :: l => by
    show (eqD (en t) (en s) || (kvE en v l).any _) = _
    rw [kvE_any h (l := l), h.eq_]
    by_cases c : t = s
    · subst c; simp
    · have c' : ¬ s = t := fun e => c e.symm
      simp [c, c']
theorem kvE_get (h : En en) : ∀ {l : List α}, dGet (kvE en v l) (en s) = if s ∈ l then some v else none
  | [] => by simp [kvE, dGet]
  | t :: l => by
    have ih := kvE_get h (l := l)
    unfold dGet at ih ⊢
    show ((List.find? (fun p => eqD p.1 (en s)) ((en t, v) :: kvE en v l)).map (·.2)) = _
    rw [List.find?_cons]
    by_cases c : t = s
    · subst c
      simp [h.eq_]
    · have c' : ¬ s = t := fun e => c e.symm
      have e : eqD (en t) (en s) = false := by rw [h.eq_]; simpa using c
      simp only [e]
      rw [ih]
      simp [c']
theorem kvE_put (h : En en) : dPut (kvE en v l) (en s) v = kvE en v (addE l s) := by
  unfold dPut addE
  rw [kvE_any h]
  by_cases c : s ∈ l
  · rw [decide_eq_true c, if_pos rfl, if_pos c]
    unfold kvE
    rw [List.map_map]
    apply List.map_congr_left
    intro t _
    show (if eqD (en t) (en s) = true then (en t, v) else (en t, v)) = _
    split <;> rfl
  · rw [decide_eq_false c, if_neg (by decide), if_neg c]
    unfold kvE
    rw [List.map_append]
    rfl
theorem kvE_in (h : En en) [i : Decidable (s ∈ l)] : cmpD .in_ (en s) (.dic (kvE en v l)) = some (decide (s ∈ l)) := by
  rw [cmp_in]
  show (if keysOk (kvE en v l) (en s) = true then some (dGet (kvE en v l) (en s)).isSome else none) = _
  rw [if_pos (kvE_ok h), kvE_get h]
  by_cases c : s ∈ l <;> simp [c]
theorem kvE_nin (h : En en) [i : Decidable (s ∈ l)] : cmpD .notIn (en s) (.dic (kvE en v l)) = some (!decide (s ∈ l)) := by
  rw [cmp_notIn, ← cmp_in, kvE_in h]
  rfl
theorem addE_len : (addE l s).length ≤ l.length + 1 := by
  unfold addE
  split
  · omega
  · simp
theorem addE_nodup (h : l.Nodup) : (addE l s).Nodup := by
  unfold addE
  split
  · exact h
  · rename_i c
    exact List.nodup_append.mpr ⟨h, by simp, fun x hx y hy => by
      rw [List.mem_singleton.mp hy]
      exact fun e => c (e ▸ hx)⟩
theorem addE_mem {t : α} : t ∈ addE l s ↔ t ∈ l ∨ t = s := by
  unfold addE
  split
  · rename_i c
    constructor
    · exact .inl
    · rintro (h | rfl)
      · exact h
      · exact c
  · simp
theorem fold_addE : ∀ (l acc : List α), acc.Nodup → (l.foldl addE acc).Nodup ∧ ∀ t, t ∈ l.foldl addE acc ↔ t ∈ acc ∨ t ∈ l
  | [], acc, h => ⟨h, fun t => by simp⟩
  | s :: l, acc, h => by
    obtain ⟨a, b⟩ := fold_addE l (addE acc s) (addE_nodup h)
    refine ⟨a, fun t => (b t).trans ?_⟩
    rw [addE_mem, List.mem_cons]
    constructor
    · rintro ((h | h) | h) <;> simp [h]
    · rintro (h | h | h) <;> simp [h]
/-- {name: v for name in names}, for texts and numbers -/
theorem wdc_keys {f : D → (Option (D × D) → Prop) → Prop} {K : List (D × D) → Prop} (h : En en) (hs : ∀ a, isKey (en a) = true) (hf : ∀ (s : α) (K : Option (D × D) → Prop), K (some (en s, v)) → f (en s) K) : ∀ (l acc : List α), acc.length + l.length ≤ szL → K (kvE en v (l.foldl addE acc)) → wdc f (l.map en) (kvE en v acc) K
  | [], acc, _, k => k
  | s :: l, acc, hl, k => by
    rw [List.length_cons] at hl
    refine hf s _ ⟨⟨hs s, by rw [kvE_len]; omega⟩, ?_⟩
    show wdc f (l.map en) (dPut (kvE en v acc) (en s) v) K
    rw [kvE_put h]
    have := addE_len (l := acc) (s := s)
    exact wdc_keys h hs hf l (addE acc s) (by omega) k
end
/-! ### sorting -/
section
variable {α : Type} {en : α → D}
def srt (en : α → D) (l : List α) : List α := sortB (fun a b => ltD (en a) (en b)) l
theorem srt_map {l : List α} : sortD (l.map en) = (srt en l).map en := sortB_map (lt := fun a b => ltD (en a) (en b)) (fun _ _ => rfl) l
theorem mem_srt {l : List α} {a : α} : a ∈ srt en l ↔ a ∈ l := mem_sortB
theorem insB_perm {lt : α → α → Bool} {x : α} : ∀ {l : List α}, (insB lt x l).Perm (x :: l)
  | [] => .refl _
  | y :: l => by
    unfold insB
    split
    · exact .refl _
    · exact (insB_perm.cons y).trans (.swap x y l)
theorem foldl_perm {lt : α → α → Bool} : ∀ {l acc : List α}, (l.foldl (fun acc x => insB lt x acc) acc).Perm (l ++ acc)
  | [], acc => .refl _
  | x :: l, acc => by
    rw [List.foldl_cons, List.cons_append]
    exact foldl_perm.trans ((insB_perm.append_left l).trans List.perm_middle)
theorem sortB_perm {lt : α → α → Bool} {l : List α} : (sortB lt l).Perm l := by
  have := foldl_perm (lt := lt) (l := l) (acc := [])
  rw [List.append_nil] at this
  exact this
theorem srt_len {l : List α} : (srt en l).length = l.length := sortB_perm.length_eq
theorem srt_nodup {l : List α} (h : l.Nodup) : (srt en l).Nodup := sortB_perm.nodup_iff.mpr h
/-- by a number that the order heeds -/
theorem insB_key {lt : α → α → Bool} (key : α → Nat) (h1 : ∀ a b, lt a b = true → key a ≤ key b) (h0 : ∀ a b, lt a b = false → key b ≤ key a) {x : α} : ∀ {l : List α}, l.Pairwise (fun a b => key a ≤ key b) → (insB lt x l).Pairwise (fun a b => key a ≤ key b)
  | [], _ => by simp [insB]
  | y :: l, h => by
    unfold insB
    have hc := List.pairwise_cons.mp h
    split
    · rename_i c
      refine List.pairwise_cons.mpr ⟨fun z hz => ?_, h⟩
      rcases List.mem_cons.mp hz with rfl | hz
      · exact h1 _ _ c
      · exact Nat.le_trans (h1 _ _ c) (hc.1 z hz)
    · rename_i c
      refine List.pairwise_cons.mpr ⟨fun z hz => ?_, insB_key key h1 h0 hc.2⟩
      rcases mem_insB.mp hz with rfl | hz
      · exact h0 _ _ (Bool.eq_false_iff.mpr c)
      · exact hc.1 z hz
theorem sortB_key {lt : α → α → Bool} (key : α → Nat) (h1 : ∀ a b, lt a b = true → key a ≤ key b) (h0 : ∀ a b, lt a b = false → key b ≤ key a) (l : List α) : (sortB lt l).Pairwise (fun a b => key a ≤ key b) := by
  have : ∀ (l acc : List α), acc.Pairwise (fun a b => key a ≤ key b) → (l.foldl (fun acc x => insB lt x acc) acc).Pairwise (fun a b => key a ≤ key b) := by
    intro l
    induction l with
    | nil => intro acc h; exact h
    | cons x l ih => intro acc h; exact ih _ (insB_key key h1 h0 h)
  exact this l [] .nil
theorem sortable_at (h : En en) (l : List α) (ha : ∀ a, isAtom (en a) = true) : sortable (l.map en) = true := by
  unfold sortable
  rw [h.all_pl (by decide), List.all_map, List.all_map (p := isAtom)]
  simp only [Bool.and_eq_true, Bool.or_eq_true, List.all_eq_true]
  refine ⟨⟨fun x _ => ?_, trivial⟩, .inl (.inr fun x _ => ha x)⟩
  simp only [Function.comp, List.all_map, List.all_eq_true]
  exact fun y _ => h.al x y
theorem sortable_tc (h : En en) (l : List α) (ha : ∀ a ∈ l, isTupC (en a) = true) : sortable (l.map en) = true := by
  unfold sortable
  rw [h.all_pl (by decide), List.all_map, List.all_map (p := isTupC)]
  simp only [Bool.and_eq_true, Bool.or_eq_true, List.all_eq_true]
  refine ⟨⟨fun x _ => ?_, trivial⟩, .inl (.inl fun x hx => ha x hx)⟩
  simp only [Function.comp, List.all_map, List.all_eq_true]
  exact fun y _ => h.al x y
theorem sortable_1 (h : En en) (l : List α) (hl : l.length ≤ 1) (ha : ∀ a, isNon (en a) = false) : sortable (l.map en) = true := by
  unfold sortable
  rw [h.all_pl (by decide), List.all_map, List.length_map, decide_eq_true hl]
  simp only [Bool.and_eq_true, Bool.or_eq_true, List.all_eq_true]
  refine ⟨⟨fun x _ => ?_, trivial⟩, .inr ⟨trivial, fun x hx => ?_⟩⟩
  · simp only [Function.comp, List.all_map, List.all_eq_true]
    exact fun y _ => h.al x y
  · obtain ⟨a, _, rfl⟩ := List.mem_map.mp hx
    rw [ha a]
    rfl
theorem sorted_lst {l : List α} (h : sortable (l.map en) = true) : biD .sorted [.lst (l.map en)] = some (.lst ((srt en l).map en)) := by
  show (if sortable (l.map en) = true then some (D.lst (sortD (l.map en))) else none) = _
  rw [if_pos h, srt_map]
theorem sorted_tup {l : List α} (h : sortable (l.map en) = true) : biD .sorted [.tup (l.map en)] = some (.lst ((srt en l).map en)) := by
  show (if sortable (l.map en) = true then some (D.lst (sortD (l.map en))) else none) = _
  rw [if_pos h, srt_map]
theorem sorted_dic {v : D} {l : List α} (h : sortable (l.map en) = true) : biD .sorted [.dic (kvE en v l)] = some (.lst ((srt en l).map en)) := by
  show (if sortable (dKeys (kvE en v l)) = true then some (D.lst (sortD (dKeys (kvE en v l)))) else none) = _
  rw [kvE_keys, if_pos h, srt_map]
/-- what stands in order, of the same ones -/
theorem srt_eq (h : En en) {l m : List α} (hs : sortable (l.map en) = true) (p : l.Perm m) (hm : m.Pairwise fun a b => ltD (en b) (en a) = false) : srt en l = m := by
  have e : sortD (l.map en) = sortD (m.map en) := sortD_perm hs (fun x hx => by
    obtain ⟨a, _, rfl⟩ := List.mem_map.mp hx
    exact ⟨5, h.can a⟩) (p.map en)
  rw [srt_map, srt_map] at e
  have e2 : srt en m = m := sortB_id hm
  rw [e2] at e
  have : ∀ {l m : List α}, l.map en = m.map en → l = m := by
    intro l
    induction l with
    | nil => intro m e; cases m with
      | nil => rfl
      | cons _ _ => simp at e
    | cons a l ih => intro m e; cases m with
      | nil => simp at e
      | cons b m =>
        rw [List.map_cons, List.map_cons] at e
        obtain ⟨e1, e2⟩ := List.cons.inj e
        rw [h.inj _ _ e1, ih e2]
  exact this e
theorem of_maps {en : α → D} : ∀ {xs : List D}, (∀ x ∈ xs, ∃ a, x = en a) → ∃ l : List α, xs = l.map en
  | [], _ => ⟨[], rfl⟩
  | x :: xs, h => by
    obtain ⟨a, rfl⟩ := h x List.mem_cons_self
    obtain ⟨l, rfl⟩ := of_maps fun y hy => h y (List.mem_cons_of_mem _ hy)
    exact ⟨a :: l, rfl⟩
theorem nodup_of_map {β : Type} {f : α → β} : ∀ {l : List α}, (l.map f).Nodup → l.Nodup
  | [], _ => .nil
  | a :: l, h => by
    rw [List.map_cons, List.nodup_cons] at h
    exact List.nodup_cons.mpr ⟨fun c => h.1 (List.mem_map.mpr ⟨a, c, rfl⟩), nodup_of_map h.2⟩
/-- sorted(set(..)) -/
theorem sset_en (h : En en) {l : List α} (ht : ∀ a, isTupC (en a) = true) : ∃ m : List α, dedupD (l.map en) = m.map en ∧ m.Nodup ∧ (∀ a, a ∈ m ↔ a ∈ l) ∧ (m.length < 64 → meD .sset (.lst (l.map en)) [] = some (.lst ((srt en m).map en))) := by
  obtain ⟨nd, me⟩ := dedup_spec (xs := l.map en) (fun x hx => by
    obtain ⟨a, _, rfl⟩ := List.mem_map.mp hx
    exact ⟨5, h.can a⟩)
  obtain ⟨m, e⟩ := of_maps (xs := dedupD (l.map en)) (en := en) (fun x hx => by
    obtain ⟨a, _, rfl⟩ := List.mem_map.mp ((me x).mp hx)
    exact ⟨a, rfl⟩)
  refine ⟨m, e, nodup_of_map (by rw [← e]; exact nd), fun a => ?_, fun hl => ?_⟩
  · constructor
    · intro ha
      have : en a ∈ l.map en := (me _).mp (by rw [e]; exact List.mem_map.mpr ⟨a, ha, rfl⟩)
      obtain ⟨b, hb, eb⟩ := List.mem_map.mp this
      rw [← h.inj _ _ eb]
      exact hb
    · intro ha
      have : en a ∈ m.map en := by rw [← e]; exact (me _).mpr (List.mem_map.mpr ⟨a, ha, rfl⟩)
      obtain ⟨b, hb, eb⟩ := List.mem_map.mp this
      rw [← h.inj _ _ eb]
      exact hb
  · show (if (l.map en).all isCT && sortable (dedupD (l.map en)) && decide ((dedupD (l.map en)).length < 64) then some (D.lst (sortD (dedupD (l.map en)))) else none) = _
    rw [e, sortable_tc h m fun a _ => ht a, List.length_map, decide_eq_true hl, srt_map, if_pos]
    rw [Bool.and_true, Bool.and_true, List.all_map, List.all_eq_true]
    intro a _
    show (isTupD (en a) && cano 8 (en a)) = true
    have h1 := ht a
    have h2 := h.can a
    rw [Bool.and_eq_true]
    cases hd : en a with
    | tup xs =>
      rw [hd] at h2
      exact ⟨rfl, cano_mono 5 8 _ (by decide) h2⟩
    | _ => rw [hd] at h1; simp [isTupC] at h1
end
end Ip

/-! PkB: defs that many laws share. -/
namespace Law
open Ip
abbrev G (wn k : Nat) : Gl := (tb wn).at k
section
variable {wn k : Nat} {K : D → Prop}
theorem c_draw {m : Int} (h0 : 0 < m) (h1 : m < 1073741824) (h : ∀ d : Int, 0 ≤ d → d < m → K (.int d)) : Cl (G wn (k + 1)) 10 [.box, .int m] K := cl_draw rfl h0 h1 h
def okD (m B : Nat) (q : List Nat → Bool) : Nat → D → Bool
  | _, .non | _, .bl _ => true
  | _, .int i => decide (i.natAbs ≤ B)
  | _, .str s => q s
  | n + 1, .tup xs | n + 1, .lst xs => decide (xs.length ≤ m) && xs.all (okD m B q n)
  | _, _ => false
theorem okD_pl {m B : Nat} {q : List Nat → Bool} : ∀ {n : Nat} {d : D}, okD m B q n d = true → pl n d = true
  | n, .non, _ | n, .bl _, _ | n, .int _, _ | n, .str _, _ => by simp [pl]
  | n + 1, .tup xs, h => by
    simp only [okD, Bool.and_eq_true, List.all_eq_true] at h
    simp only [pl, List.all_eq_true]
    exact fun x hx => okD_pl (h.2 x hx)
  | n + 1, .lst xs, h => by
    simp only [okD, Bool.and_eq_true, List.all_eq_true] at h
    simp only [pl, List.all_eq_true]
    exact fun x hx => okD_pl (h.2 x hx)
  | 0, .tup _, h | 0, .lst _, h | _, .dic _, h | _, .set _, h | _, .box, h | _, .fn _, h => by simp [okD] at h
theorem okD_mono {m B m' B' : Nat} {q q' : List Nat → Bool} (hm : m ≤ m') (hB : B ≤ B') (hq : ∀ s, q s = true → q' s = true) : ∀ {n n' : Nat} {d : D}, n ≤ n' → okD m B q n d = true → okD m' B' q' n' d = true
  | n, n', .non, _, _ | n, n', .bl _, _, _ => by simp [okD]
  | n, n', .int i, _, h => by simp [okD] at h ⊢; omega
  | n, n', .str s, _, h => by simp [okD] at h ⊢; exact hq s h
  | n + 1, n' + 1, .tup xs, hn, h => by
    simp only [okD, Bool.and_eq_true, List.all_eq_true, decide_eq_true_eq] at h ⊢
    exact ⟨by omega, fun x hx => okD_mono hm hB hq (by omega) (h.2 x hx)⟩
  | n + 1, n' + 1, .lst xs, hn, h => by
    simp only [okD, Bool.and_eq_true, List.all_eq_true, decide_eq_true_eq] at h ⊢
    exact ⟨by omega, fun x hx => okD_mono hm hB hq (by omega) (h.2 x hx)⟩
  | n + 1, 0, _, hn, h => by omega
  | 0, _, .tup _, _, h | 0, _, .lst _, _, h | _, _, .dic _, _, h | _, _, .set _, _, h | _, _, .box, _, h | _, _, .fn _, _, h => by simp [okD] at h
theorem eqD_refl : ∀ (n : Nat) (d : D), pl n d = true → eqD d d = true
  | n, .non, _ | n, .bl _, _ | n, .int _, _ | n, .str _, _ => by simp [eqD]
  | n + 1, .tup xs, h => by
    simp only [pl, List.all_eq_true] at h
    simp only [eqD]
    induction xs with
    | nil => simp [eqDs]
    | cons x xs ih =>
      simp only [eqDs, Bool.and_eq_true]
      exact ⟨eqD_refl n x (h x List.mem_cons_self), ih fun y hy => h y (List.mem_cons_of_mem _ hy)⟩
  | n + 1, .lst xs, h => by
    simp only [pl, List.all_eq_true] at h
    simp only [eqD]
    induction xs with
    | nil => simp [eqDs]
    | cons x xs ih =>
      simp only [eqDs, Bool.and_eq_true]
      exact ⟨eqD_refl n x (h x List.mem_cons_self), ih fun y hy => h y (List.mem_cons_of_mem _ hy)⟩
  | 0, .tup _, h | 0, .lst _, h | _, .dic _, h | _, .set _, h | _, .box, h | _, .fn _, h => by simp [pl] at h
theorem rng_map {n : Nat} (h : n ≤ szL) : itD .rng [.int (n : Int)] = some ((List.range n).map fun (i : Nat) => D.int (i : Int)) := by
  rw [rng0 h]
  unfold rngL
  congr 1
  apply List.map_congr_left
  intro i _
  rw [Int.zero_add]
theorem sub_seq {xs : List D} {i : Nat} (h : i < xs.length) : subD (.tup xs) (.int (i : Int)) = some xs[i] ∧ subD (.lst xs) (.int (i : Int)) = some xs[i] := ⟨sub_tup (List.getElem?_eq_getElem h), sub_lst (List.getElem?_eq_getElem h)⟩
theorem c_same : ∀ (n : Nat) (d : D) (k : Nat) (K : D → Prop), okD 1000000 B q n d = true → n ≤ 50 → K (.bl true) → Cl (G wn (k + n + 1)) 11 [d, d] K := by
  intro n
  induction n with
  | zero =>
    intro d k K h hn hk
    have hp : pl 60 d = true := pl_mono 0 60 d (by omega) (okD_pl h)
    have he := eqD_refl 60 d hp
    refine cl_def rfl rfl rfl ?_
    cases d <;> first | (simp [okD] at h; done) | simp [ut3__law_same, ut2__law_same, ut1__law_same, u__law_same, wp_con, wp_loc, wp_bin, wp_neg, wp_not, wp_and, wp_or, wp_ite, wp_cmp, wp_chain, wp_tup, wp_lst, wp_call, wp_bi, wp_isi, wp_sub, wp_sli, wp_rev, wp_lc, wp_dct, wp_dc, wp_me, wp_glo, wps_nil, wps_cons, wpos_nil, wpos_cons, wpts_nil, wpts_cons, wpo_none, wpo_some, wxs_nil, wxs_cons, wx_set, wx_par, wx_tgt, wx_aug, wx_app, wx_ext, wx_sti, wx_dput, wx_exp, wx_ret, wx_ife, wx_for, wx_brk, wx_cnt, wx_pas, wx_fz, mkW_v, mkW_o, mkW_t, opt_some, asI_int, evV_0, evV_s, evL_0, evL_s, setO_f, setO_T, setO_l, frz_nil, frz_cons, List.getElem?_cons_zero, List.getElem?_cons_succ, List.set_cons_zero, List.set_cons_succ, ownL_0, ownL_s, ownD_0, ownD_s, setO_d, pairUp_nil, pairUp_cons, dPuts_nil, setOs_nil, setOs_cons, bindAll_nil, bindAll_cons, bindT_nm, bindT_tp, bindTs_nil, bindTs_cons, wipeE_nil, wipeE_cons, Option.bind_some, Option.map_some, ends, cl_args, List.map_cons, List.map_nil, List.cons_append, List.nil_append, rep_0, rep_s, truD_bl, Bool.not_not, if_true_eq, if_false_eq, isStr, if_true, if_false, Bool.false_eq_true, eq_self, isiD, isiB, hp, cmpD, he, isNon, hk]
  | succ n ih =>
    intro d k K h hn hk
    have hp : pl 60 d = true := pl_mono (n + 1) 60 d (by omega) (okD_pl h)
    have he := eqD_refl 60 d hp
    have sz : (1000000 : Nat) ≤ szL := by decide
    refine cl_def rfl rfl rfl ?_
    cases d with
    | tup xs =>
      simp only [okD, Bool.and_eq_true, List.all_eq_true, decide_eq_true_eq] at h
      simp [ut3__law_same, ut2__law_same, ut1__law_same, u__law_same, wp_con, wp_loc, wp_bin, wp_neg, wp_not, wp_and, wp_or, wp_ite, wp_cmp, wp_chain, wp_tup, wp_lst, wp_call, wp_bi, wp_isi, wp_sub, wp_sli, wp_rev, wp_lc, wp_dct, wp_dc, wp_me, wp_glo, wps_nil, wps_cons, wpos_nil, wpos_cons, wpts_nil, wpts_cons, wpo_none, wpo_some, wxs_nil, wxs_cons, wx_set, wx_par, wx_tgt, wx_aug, wx_app, wx_ext, wx_sti, wx_dput, wx_exp, wx_ret, wx_ife, wx_for, wx_brk, wx_cnt, wx_pas, wx_fz, mkW_v, mkW_o, mkW_t, opt_some, asI_int, evV_0, evV_s, evL_0, evL_s, setO_f, setO_T, setO_l, frz_nil, frz_cons, List.getElem?_cons_zero, List.getElem?_cons_succ, List.set_cons_zero, List.set_cons_succ, ownL_0, ownL_s, ownD_0, ownD_s, setO_d, pairUp_nil, pairUp_cons, dPuts_nil, setOs_nil, setOs_cons, bindAll_nil, bindAll_cons, bindT_nm, bindT_tp, bindTs_nil, bindTs_cons, wipeE_nil, wipeE_cons, Option.bind_some, Option.map_some, ends, cl_args, List.map_cons, List.map_nil, List.cons_append, List.nil_append, rep_0, rep_s, truD_bl, Bool.not_not, if_true_eq, if_false_eq, isStr, if_true, if_false, Bool.false_eq_true, eq_self, isiD, isiB, hp, cmp_eq_int, biD, rng_map (show xs.length ≤ szL by omega)]
      refine wlc_map (fun _ => .bl true) (fun i hi K' hK' => ?_) ?_
      · have hl : i < xs.length := List.mem_range.mp hi
        simp only [wlT, e1__law_same, wp_con, wp_loc, wp_bin, wp_neg, wp_not, wp_and, wp_or, wp_ite, wp_cmp, wp_chain, wp_tup, wp_lst, wp_call, wp_bi, wp_isi, wp_sub, wp_sli, wp_rev, wp_lc, wp_dct, wp_dc, wp_me, wp_glo, wps_nil, wps_cons, wpos_nil, wpos_cons, wpts_nil, wpts_cons, wpo_none, wpo_some, wxs_nil, wxs_cons, wx_set, wx_par, wx_tgt, wx_aug, wx_app, wx_ext, wx_sti, wx_dput, wx_exp, wx_ret, wx_ife, wx_for, wx_brk, wx_cnt, wx_pas, wx_fz, mkW_v, mkW_o, mkW_t, opt_some, asI_int, evV_0, evV_s, evL_0, evL_s, setO_f, setO_T, setO_l, frz_nil, frz_cons, List.getElem?_cons_zero, List.getElem?_cons_succ, List.set_cons_zero, List.set_cons_succ, ownL_0, ownL_s, ownD_0, ownD_s, setO_d, pairUp_nil, pairUp_cons, dPuts_nil, setOs_nil, setOs_cons, bindAll_nil, bindAll_cons, bindT_nm, bindT_tp, bindTs_nil, bindTs_cons, wipeE_nil, wipeE_cons, Option.bind_some, Option.map_some, ends, cl_args, List.map_cons, List.map_nil, List.cons_append, List.nil_append, rep_0, rep_s, truD_bl, Bool.not_not, if_true_eq, if_false_eq, isStr, if_true, if_false, Bool.false_eq_true, eq_self, (sub_seq hl).1]
        exact ih _ _ _ (h.2 _ (List.getElem_mem hl)) (by omega) hK'
      · rw [bls_map (fun _ => true)]
        have e : ((List.range xs.length).map fun _ => true).all id = true := by simp
        simp only [Option.map_some, opt_some, e, hk]
    | lst xs =>
      simp only [okD, Bool.and_eq_true, List.all_eq_true, decide_eq_true_eq] at h
      simp [ut3__law_same, ut2__law_same, ut1__law_same, u__law_same, wp_con, wp_loc, wp_bin, wp_neg, wp_not, wp_and, wp_or, wp_ite, wp_cmp, wp_chain, wp_tup, wp_lst, wp_call, wp_bi, wp_isi, wp_sub, wp_sli, wp_rev, wp_lc, wp_dct, wp_dc, wp_me, wp_glo, wps_nil, wps_cons, wpos_nil, wpos_cons, wpts_nil, wpts_cons, wpo_none, wpo_some, wxs_nil, wxs_cons, wx_set, wx_par, wx_tgt, wx_aug, wx_app, wx_ext, wx_sti, wx_dput, wx_exp, wx_ret, wx_ife, wx_for, wx_brk, wx_cnt, wx_pas, wx_fz, mkW_v, mkW_o, mkW_t, opt_some, asI_int, evV_0, evV_s, evL_0, evL_s, setO_f, setO_T, setO_l, frz_nil, frz_cons, List.getElem?_cons_zero, List.getElem?_cons_succ, List.set_cons_zero, List.set_cons_succ, ownL_0, ownL_s, ownD_0, ownD_s, setO_d, pairUp_nil, pairUp_cons, dPuts_nil, setOs_nil, setOs_cons, bindAll_nil, bindAll_cons, bindT_nm, bindT_tp, bindTs_nil, bindTs_cons, wipeE_nil, wipeE_cons, Option.bind_some, Option.map_some, ends, cl_args, List.map_cons, List.map_nil, List.cons_append, List.nil_append, rep_0, rep_s, truD_bl, Bool.not_not, if_true_eq, if_false_eq, isStr, if_true, if_false, Bool.false_eq_true, eq_self, isiD, isiB, hp, cmp_eq_int, biD, rng_map (show xs.length ≤ szL by omega)]
      refine wlc_map (fun _ => .bl true) (fun i hi K' hK' => ?_) ?_
      · have hl : i < xs.length := List.mem_range.mp hi
        simp only [wlT, e1__law_same, wp_con, wp_loc, wp_bin, wp_neg, wp_not, wp_and, wp_or, wp_ite, wp_cmp, wp_chain, wp_tup, wp_lst, wp_call, wp_bi, wp_isi, wp_sub, wp_sli, wp_rev, wp_lc, wp_dct, wp_dc, wp_me, wp_glo, wps_nil, wps_cons, wpos_nil, wpos_cons, wpts_nil, wpts_cons, wpo_none, wpo_some, wxs_nil, wxs_cons, wx_set, wx_par, wx_tgt, wx_aug, wx_app, wx_ext, wx_sti, wx_dput, wx_exp, wx_ret, wx_ife, wx_for, wx_brk, wx_cnt, wx_pas, wx_fz, mkW_v, mkW_o, mkW_t, opt_some, asI_int, evV_0, evV_s, evL_0, evL_s, setO_f, setO_T, setO_l, frz_nil, frz_cons, List.getElem?_cons_zero, List.getElem?_cons_succ, List.set_cons_zero, List.set_cons_succ, ownL_0, ownL_s, ownD_0, ownD_s, setO_d, pairUp_nil, pairUp_cons, dPuts_nil, setOs_nil, setOs_cons, bindAll_nil, bindAll_cons, bindT_nm, bindT_tp, bindTs_nil, bindTs_cons, wipeE_nil, wipeE_cons, Option.bind_some, Option.map_some, ends, cl_args, List.map_cons, List.map_nil, List.cons_append, List.nil_append, rep_0, rep_s, truD_bl, Bool.not_not, if_true_eq, if_false_eq, isStr, if_true, if_false, Bool.false_eq_true, eq_self, (sub_seq hl).2]
        exact ih _ _ _ (h.2 _ (List.getElem_mem hl)) (by omega) hK'
      · rw [bls_map (fun _ => true)]
        have e : ((List.range xs.length).map fun _ => true).all id = true := by simp
        simp only [Option.map_some, opt_some, e, hk]
    | _ => first | (simp [okD] at h; done) | simp [ut3__law_same, ut2__law_same, ut1__law_same, u__law_same, wp_con, wp_loc, wp_bin, wp_neg, wp_not, wp_and, wp_or, wp_ite, wp_cmp, wp_chain, wp_tup, wp_lst, wp_call, wp_bi, wp_isi, wp_sub, wp_sli, wp_rev, wp_lc, wp_dct, wp_dc, wp_me, wp_glo, wps_nil, wps_cons, wpos_nil, wpos_cons, wpts_nil, wpts_cons, wpo_none, wpo_some, wxs_nil, wxs_cons, wx_set, wx_par, wx_tgt, wx_aug, wx_app, wx_ext, wx_sti, wx_dput, wx_exp, wx_ret, wx_ife, wx_for, wx_brk, wx_cnt, wx_pas, wx_fz, mkW_v, mkW_o, mkW_t, opt_some, asI_int, evV_0, evV_s, evL_0, evL_s, setO_f, setO_T, setO_l, frz_nil, frz_cons, List.getElem?_cons_zero, List.getElem?_cons_succ, List.set_cons_zero, List.set_cons_succ, ownL_0, ownL_s, ownD_0, ownD_s, setO_d, pairUp_nil, pairUp_cons, dPuts_nil, setOs_nil, setOs_cons, bindAll_nil, bindAll_cons, bindT_nm, bindT_tp, bindTs_nil, bindTs_cons, wipeE_nil, wipeE_cons, Option.bind_some, Option.map_some, ends, cl_args, List.map_cons, List.map_nil, List.cons_append, List.nil_append, rep_0, rep_s, truD_bl, Bool.not_not, if_true_eq, if_false_eq, isStr, if_true, if_false, Bool.false_eq_true, eq_self, isiD, isiB, hp, cmpD, he, isNon, hk]
end
end Law

/-! Pm56: what names tell, within parts (plain). -/
namespace Law
open Ip
abbrev Nm := List Nat
abbrev Rl := List Nm × Nm
def Cls (R : List Rl) (W : List Nm) : Prop := ∀ r ∈ R, r.1 ⊆ W → r.2 ∈ W
def told (R : List Rl) (X : List Nm) (c : Nm) : Prop := ∀ W : List Nm, X ⊆ W → Cls R W → c ∈ W
noncomputable def tl (R : List Rl) (X : List Nm) (c : Nm) : Bool := @decide (told R X c) (Classical.propDecidable _)
structure NO (N : List Nm) : Prop where
  nd : N.Nodup
  so : N.Pairwise fun a b => ltN b a = false
  l5 : N.length ≤ 5
def RO (N : List Nm) (R : List Rl) : Prop := ∀ r ∈ R, r.1.Sublist N ∧ r.2 ∈ N
section
variable {R : List Rl} {X Y Z W N P : List Nm} {c : Nm} {parts : List (List Nm)}
theorem tl_iff : tl R X c = true ↔ told R X c := by unfold tl; exact @decide_eq_true_iff _ (Classical.propDecidable _)
theorem told_mem (h : c ∈ X) : told R X c := fun _ h1 _ => h1 h
theorem told_mono (h : X ⊆ Y) (t : told R X c) : told R Y c := fun W h1 h2 => t W (fun x hx => h1 (h hx)) h2
theorem told_trans (h : ∀ y ∈ Y, told R X y) (t : told R Y c) : told R X c := fun W h1 h2 => t W (fun y hy => h y hy W h1 h2) h2
theorem told_rule {r : Rl} (hr : r ∈ R) : told R r.1 r.2 := fun W h1 h2 => h2 r hr h1
/-- what is told, of N -/
theorem cls_tl (hR : RO N R) : Cls R (N.filter (tl R X)) := fun r hr h => by
  rw [List.mem_filter, tl_iff]
  exact ⟨(hR r hr).2, told_trans (fun y hy => tl_iff.mp (List.mem_filter.mp (h hy)).2) (told_rule hr)⟩
theorem sub_tl (hX : X ⊆ N) : X ⊆ N.filter (tl R X) := fun x hx => List.mem_filter.mpr ⟨hX hx, tl_iff.mpr (told_mem hx)⟩
/-! ### within parts -/
def inP (P : List Nm) (Z : List Nm) : List Nm := Z.filter fun c => decide (c ∈ P)
theorem mem_inP : c ∈ inP P Z ↔ c ∈ Z ∧ c ∈ P := by unfold inP; rw [List.mem_filter, decide_eq_true_iff]
def SeenP (parts : List (List Nm)) (R : List Rl) (Z : List Nm) : Prop := ∀ P ∈ parts, ∀ c ∈ P, told R (inP P Z) c → c ∈ Z
def ptold (parts : List (List Nm)) (R : List Rl) (X : List Nm) (c : Nm) : Prop := ∀ Z : List Nm, X ⊆ Z → SeenP parts R Z → c ∈ Z
noncomputable def ptl (parts : List (List Nm)) (R : List Rl) (X : List Nm) (c : Nm) : Bool := @decide (ptold parts R X c) (Classical.propDecidable _)
theorem ptl_iff : ptl parts R X c = true ↔ ptold parts R X c := by unfold ptl; exact @decide_eq_true_iff _ (Classical.propDecidable _)
theorem seen_of_cls (h : Cls R W) : SeenP parts R W := fun P _ c _ t => t W (fun x hx => (mem_inP.mp hx).1) h
theorem told_of_ptold (h : ptold parts R X c) : told R X c := fun W h1 h2 => h W h1 (seen_of_cls h2)
theorem ptold_mem (h : c ∈ X) : ptold parts R X c := fun _ h1 _ => h1 h
/-- the share of N -/
def res (N Z : List Nm) : List Nm := N.filter fun c => decide (c ∈ Z)
theorem mem_res : c ∈ res N Z ↔ c ∈ N ∧ c ∈ Z := by unfold res; rw [List.mem_filter, decide_eq_true_iff]
theorem res_sub : (res N Z).Sublist N := List.filter_sublist ..
theorem res_cls (hR : RO N R) (h : Cls R Z) : Cls R (res N Z) := fun r hr hs => mem_res.mpr ⟨(hR r hr).2, h r hr fun x hx => (mem_res.mp (hs hx)).2⟩
theorem res_seen (hp : ∀ P ∈ parts, P ⊆ N) (h : SeenP parts R Z) : SeenP parts R (res N Z) := fun P hP c hc t => by
  refine mem_res.mpr ⟨hp P hP hc, h P hP c hc (told_mono (fun x hx => ?_) t)⟩
  have := mem_inP.mp hx
  exact mem_inP.mpr ⟨(mem_res.mp this.1).2, this.2⟩
/-- sublists with the same ones are the same -/
theorem sub_res (hN : N.Nodup) (h : X.Sublist N) : X = res N X := by
  induction h with
  | slnil => rfl
  | @cons l1 l2 a h ih =>
    have hc := List.nodup_cons.mp hN
    unfold res
    rw [List.filter_cons_of_neg (by simpa using fun c => hc.1 (h.subset c))]
    exact ih hc.2
  | @cons_cons l1 l2 a h ih =>
    have hc := List.nodup_cons.mp hN
    have e := ih hc.2
    unfold res at e ⊢
    rw [List.filter_cons_of_pos (by simp)]
    congr 1
    rw [e] 
    apply List.filter_congr
    intro x hx
    have hne : x ≠ a := fun z => hc.1 (z ▸ hx)
    rw [← e]
    simp [hne]
theorem sub_ext (hN : N.Nodup) (h1 : X.Sublist N) (h2 : Y.Sublist N) (h : ∀ c, c ∈ X ↔ c ∈ Y) : X = Y := by
  rw [sub_res hN h1, sub_res hN h2]
  unfold res
  apply List.filter_congr
  intro x _
  simp [h x]
theorem filter_ext {p q : Nm → Bool} (h : ∀ c ∈ N, (p c = true ↔ q c = true)) : N.filter p = N.filter q := by
  apply List.filter_congr
  intro x hx
  rw [Bool.eq_iff_iff]
  exact h x hx
/-! ### lengths -/
theorem len_sub {α : Type} [DecidableEq α] : ∀ {X Y : List α}, X.Nodup → X ⊆ Y → X.length ≤ Y.length
  | [], _, _, _ => Nat.zero_le _
  | a :: X, Y, h, hs => by
    have hc := List.nodup_cons.mp h
    have ha : a ∈ Y := hs List.mem_cons_self
    have := len_sub (Y := Y.erase a) hc.2 fun x hx => (List.mem_erase_of_ne (fun e => hc.1 (by rw [← e]; exact hx))).mpr (hs (List.mem_cons_of_mem _ hx))
    rw [List.length_erase_of_mem ha] at this
    have hp := List.length_pos_of_mem ha
    rw [List.length_cons]
    omega
theorem sub_of_len {α : Type} [DecidableEq α] {X Y : List α} (h : X.Nodup) (hs : X ⊆ Y) (hl : Y.length ≤ X.length) : Y ⊆ X := fun y hy => by
  by_cases c : y ∈ X
  · exact c
  · have := len_sub (X := y :: X) (Y := Y) (List.nodup_cons.mpr ⟨c, h⟩) fun x hx => by
      rcases List.mem_cons.mp hx with rfl | hx
      · exact hy
      · exact hs hx
    rw [List.length_cons] at this
    omega
/-! ### all parts -/
def pw (N : List Nm) : List (List Nm) := N.foldl (fun rows c => rows ++ rows.map (· ++ [c])) [[]]
theorem pw_snoc : pw (N ++ [c]) = pw N ++ (pw N).map (· ++ [c]) := by unfold pw; rw [List.foldl_append]; rfl
theorem pw_len_aux : ∀ (N : List Nm) (rows : List (List Nm)), (N.foldl (fun rows c => rows ++ rows.map (· ++ [c])) rows).length = rows.length * 2 ^ N.length
  | [], rows => by simp
  | c :: N, rows => by
    rw [List.foldl_cons, pw_len_aux N, List.length_append, List.length_map, List.length_cons, Nat.pow_succ]
    have : rows.length + rows.length = rows.length * 2 := by omega
    rw [this, Nat.mul_assoc, Nat.mul_comm 2]
theorem pw_len : (pw N).length = 2 ^ N.length := by
  unfold pw
  rw [pw_len_aux]
  simp
theorem mem_pw_aux : ∀ (N : List Nm) (rows : List (List Nm)), X ∈ N.foldl (fun rows c => rows ++ rows.map (· ++ [c])) rows ↔ ∃ r ∈ rows, ∃ t, t.Sublist N ∧ X = r ++ t
  | [], rows => by simp
  | c :: N, rows => by
    rw [List.foldl_cons, mem_pw_aux N]
    constructor
    · rintro ⟨r, hr, t, ht, rfl⟩
      rcases List.mem_append.mp hr with hr | hr
      · exact ⟨r, hr, t, ht.cons _, rfl⟩
      · obtain ⟨r', hr', rfl⟩ := List.mem_map.mp hr
        exact ⟨r', hr', c :: t, ht.cons_cons _, by simp⟩
    · rintro ⟨r, hr, t, ht, rfl⟩
      cases ht with
      | cons _ h => exact ⟨r, List.mem_append.mpr (.inl hr), t, h, rfl⟩
      | cons_cons _ h => exact ⟨r ++ [c], List.mem_append.mpr (.inr (List.mem_map.mpr ⟨r, hr, rfl⟩)), _, h, by simp⟩
theorem mem_pw : X ∈ pw N ↔ X.Sublist N := by
  unfold pw
  rw [mem_pw_aux]
  simp
/-! ### rules kept within parts -/
/-- what is kept of a part, for a name: what tells it, least -/
structure KQ (N : List Nm) (PC : List (List Nm × Nm)) (R T : List Rl) : Prop where
  so : ∀ r ∈ T, ∃ q ∈ PC, r.2 = q.2 ∧ r.1.Sublist N ∧ r.1 ⊆ q.1 ∧ r.2 ∉ r.1 ∧ told R r.1 r.2
  co : ∀ q ∈ PC, ∀ X : List Nm, X ⊆ q.1 → q.2 ∉ X → told R X q.2 → ∃ r ∈ T, r.2 = q.2 ∧ r.1 ⊆ X
  an : ∀ r ∈ T, ∀ X : List Nm, X ⊆ r.1 → told R X r.2 → r.1 ⊆ X
theorem KQ.nil : KQ N [] R [] := ⟨fun _ h => (List.not_mem_nil h).elim, fun _ h => (List.not_mem_nil h).elim, fun _ h => (List.not_mem_nil h).elim⟩
theorem KQ.append {PC PC' : List (List Nm × Nm)} {T T' : List Rl} (h : KQ N PC R T) (h' : KQ N PC' R T') : KQ N (PC ++ PC') R (T ++ T') := by
  refine ⟨fun r hr => ?_, fun q hq X a b t => ?_, fun r hr => ?_⟩
  · rcases List.mem_append.mp hr with hr | hr
    · obtain ⟨q, hq, e⟩ := h.so r hr
      exact ⟨q, List.mem_append.mpr (.inl hq), e⟩
    · obtain ⟨q, hq, e⟩ := h'.so r hr
      exact ⟨q, List.mem_append.mpr (.inr hq), e⟩
  · rcases List.mem_append.mp hq with hq | hq
    · obtain ⟨r, hr, e⟩ := h.co q hq X a b t
      exact ⟨r, List.mem_append.mpr (.inl hr), e⟩
    · obtain ⟨r, hr, e⟩ := h'.co q hq X a b t
      exact ⟨r, List.mem_append.mpr (.inr hr), e⟩
  · rcases List.mem_append.mp hr with hr | hr
    · exact h.an r hr
    · exact h'.an r hr
theorem KQ.perm {PC : List (List Nm × Nm)} {T T' : List Rl} (h : KQ N PC R T) (e : ∀ r, r ∈ T' ↔ r ∈ T) : KQ N PC R T' := by
  refine ⟨fun r hr => h.so r ((e r).mp hr), fun q hq X a b t => ?_, fun r hr => h.an r ((e r).mp hr)⟩
  obtain ⟨r, hr, h2⟩ := h.co q hq X a b t
  exact ⟨r, (e r).mpr hr, h2⟩
def pairs (parts : List (List Nm)) : List (List Nm × Nm) := parts.flatMap fun P => P.map fun c => (P, c)
theorem mem_pairs {q : List Nm × Nm} : q ∈ pairs parts ↔ q.1 ∈ parts ∧ q.2 ∈ q.1 := by
  unfold pairs
  rw [List.mem_flatMap]
  constructor
  · rintro ⟨P, hP, h⟩
    obtain ⟨c, hc, rfl⟩ := List.mem_map.mp h
    exact ⟨hP, hc⟩
  · rintro ⟨h1, h2⟩
    exact ⟨q.1, h1, List.mem_map.mpr ⟨q.2, h2, rfl⟩⟩
abbrev KO (N : List Nm) (parts : List (List Nm)) (R T : List Rl) : Prop := KQ N (pairs parts) R T
theorem KO.seen {T : List Rl} (h : KO N parts R T) : Cls T W ↔ SeenP parts R W := by
  constructor
  · intro hc P hP c hcP t
    by_cases hm : c ∈ W
    · exact hm
    · obtain ⟨r, hr, e, hs⟩ := h.co (P, c) (mem_pairs.mpr ⟨hP, hcP⟩) (inP P W) (fun x hx => (mem_inP.mp hx).2) (fun hx => hm (mem_inP.mp hx).1) t
      dsimp only at e
      rw [← e]
      exact hc r hr fun x hx => (mem_inP.mp (hs hx)).1
  · intro hs r hr hsub
    obtain ⟨q, hq, h1, _, h3, _, h4⟩ := h.so r hr
    obtain ⟨q1, q2⟩ := mem_pairs.mp hq
    exact hs q.1 q1 r.2 (h1 ▸ q2) (told_mono (fun x hx => mem_inP.mpr ⟨hsub hx, h3 hx⟩) h4)
theorem KO.told {T : List Rl} (h : KO N parts R T) : told T X c ↔ ptold parts R X c := by
  constructor
  · intro t Z h1 h2
    exact t Z h1 (h.seen.mpr h2)
  · intro t Z h1 h2
    exact t Z h1 (h.seen.mp h2)
theorem KO.tl {T : List Rl} (h : KO N parts R T) : tl T X c = ptl parts R X c := by
  rw [Bool.eq_iff_iff, tl_iff, ptl_iff]
  exact h.told
theorem KO.sound {T : List Rl} (h : KO N parts R T) {r : Rl} (hr : r ∈ T) : Law.told R r.1 r.2 := by
  obtain ⟨_, _, _, _, _, _, t⟩ := h.so r hr
  exact t
/-- less than 64 of them -/
theorem flat_len {α β : Type} {f : α → List β} {k : Nat} : ∀ {l : List α}, (∀ a ∈ l, (f a).length ≤ k) → (l.flatMap f).length ≤ l.length * k
  | [], _ => by simp
  | a :: l, h => by
    have := flat_len (f := f) (k := k) fun b hb => h b (List.mem_cons_of_mem a hb)
    have h1 := h a List.mem_cons_self
    rw [List.flatMap_cons, List.length_append, List.length_cons, Nat.succ_mul]
    omega
theorem nodup_map_on {α β : Type} {f : α → β} : ∀ {l : List α}, l.Nodup → (∀ a ∈ l, ∀ b ∈ l, f a = f b → a = b) → (l.map f).Nodup
  | [], _, _ => .nil
  | a :: l, h, hf => by
    have hc := List.nodup_cons.mp h
    rw [List.map_cons, List.nodup_cons]
    refine ⟨fun hm => ?_, nodup_map_on hc.2 fun x hx y hy => hf x (List.mem_cons_of_mem _ hx) y (List.mem_cons_of_mem _ hy)⟩
    obtain ⟨b, hb, e⟩ := List.mem_map.mp hm
    rw [hf b (List.mem_cons_of_mem _ hb) a List.mem_cons_self e] at hb
    exact hc.1 hb
def rest (N : List Nm) (c : Nm) : List Nm := (N.filter fun x => decide (x ≠ c)).tail
theorem KO.count {T : List Rl} (hN : NO N) (hp : ∀ P ∈ parts, P ⊆ N) (h : KO N parts R T) (hT : T.Nodup) : T.length < 64 := by
  have key : (T.map fun r => (inP (rest N r.2) r.1, r.2)) ⊆ N.flatMap fun c => (pw (rest N c)).map fun x => (x, c) := by
    intro y hy
    obtain ⟨r, hr, rfl⟩ := List.mem_map.mp hy
    obtain ⟨⟨P, c'⟩, hq, h1, h2, h3, h4, h5⟩ := h.so r hr
    obtain ⟨hP, hc'⟩ := mem_pairs.mp hq
    dsimp only at h1 hP hc' h3
    subst h1
    replace h1 := hc'
    refine List.mem_flatMap.mpr ⟨r.2, hp P hP h1, List.mem_map.mpr ⟨_, mem_pw.mpr ?_, rfl⟩⟩
    have e : inP (rest N r.2) r.1 = inP r.1 (rest N r.2) := by
      have hs : (rest N r.2).Sublist N := (List.tail_sublist _).trans (List.filter_sublist ..)
      refine sub_ext hN.nd ((List.filter_sublist ..).trans h2) ((List.filter_sublist ..).trans hs) fun c => ?_
      rw [mem_inP, mem_inP]
      exact And.comm
    rw [e]
    exact List.filter_sublist ..
  have inj : (T.map fun r => (inP (rest N r.2) r.1, r.2)).Nodup := by
    refine nodup_map_on hT fun a ha b hb e => ?_
    obtain ⟨_, _, _, a2, _, a4, a5⟩ := h.so a ha
    obtain ⟨_, _, _, b2, _, b4, b5⟩ := h.so b hb
    obtain ⟨t, c⟩ := a
    obtain ⟨u, d⟩ := b
    obtain ⟨e1, e2⟩ := Prod.mk.inj e
    dsimp only at e1 e2 a2 a4 a5 b2 b4 b5
    subst e2
    have hmem : ∀ x, x ∈ rest N c → (x ∈ t ↔ x ∈ u) := fun x hx => by
      have : x ∈ inP (rest N c) t ↔ x ∈ inP (rest N c) u := by rw [e1]
      rw [mem_inP, mem_inP] at this
      exact ⟨fun q => (this.mp ⟨q, hx⟩).1, fun q => (this.mpr ⟨q, hx⟩).1⟩
    have hcov : ∀ x, x ∈ N → x ≠ c → x ∈ rest N c ∨ (N.filter fun x => decide (x ≠ c)).head? = some x := fun x hx hne => by
      have hx' : x ∈ N.filter fun x => decide (x ≠ c) := List.mem_filter.mpr ⟨hx, by simpa using hne⟩
      unfold rest
      cases hf : N.filter fun x => decide (x ≠ c) with
      | nil => rw [hf] at hx'; cases hx'
      | cons y l =>
        rw [hf] at hx'
        rcases List.mem_cons.mp hx' with rfl | hx'
        · exact .inr rfl
        · exact .inl hx'
    have ht : ∀ x ∈ t, x ∈ u ∨ (N.filter fun x => decide (x ≠ c)).head? = some x := fun x hx => by
      rcases hcov x (a2.subset hx) (fun q => a4 (q ▸ hx)) with q | q
      · exact .inl ((hmem x q).mp hx)
      · exact .inr q
    have hu : ∀ x ∈ u, x ∈ t ∨ (N.filter fun x => decide (x ≠ c)).head? = some x := fun x hx => by
      rcases hcov x (b2.subset hx) (fun q => b4 (q ▸ hx)) with q | q
      · exact .inl ((hmem x q).mpr hx)
      · exact .inr q
    have fin : t ⊆ u ∧ u ⊆ t := by
      by_cases q : ∃ a0, (N.filter fun x => decide (x ≠ c)).head? = some a0 ∧ a0 ∈ u
      · obtain ⟨a0, q1, q2⟩ := q
        have s1 : t ⊆ u := fun x hx => by
          rcases ht x hx with q | q
          · exact q
          · rw [q1] at q; cases q; exact q2
        exact ⟨s1, h.an (u, c) hb t s1 a5⟩
      · have s1 : u ⊆ t := fun x hx => by
          rcases hu x hx with q' | q'
          · exact q'
          · exact absurd ⟨x, q', hx⟩ q
        exact ⟨h.an (t, c) ha u s1 b5, s1⟩
    rw [sub_ext hN.nd a2 b2 fun x => ⟨fun q => fin.1 q, fun q => fin.2 q⟩]
  have l1 := len_sub inj key
  rw [List.length_map] at l1
  have l2 : (N.flatMap fun c => (pw (rest N c)).map fun x => (x, c)).length ≤ N.length * 8 := by
    refine flat_len fun c hc => ?_
    rw [List.length_map, pw_len]
    have h1 : (rest N c).length ≤ 3 := by
      unfold rest
      rw [List.length_tail]
      have h2 : (N.filter fun x => decide (x ≠ c)).length < N.length := by
        rw [← List.countP_eq_length_filter]
        refine Nat.lt_of_le_of_ne List.countP_le_length fun e => ?_
        have := (List.countP_eq_length.mp e) c hc
        simp at this
      have := hN.l5
      omega
    calc 2 ^ (rest N c).length ≤ 2 ^ 3 := Nat.pow_le_pow_right (by decide) h1
      _ = 8 := rfl
  have := hN.l5
  omega
end
end Law

/-! Pk56: names, parts, rules as data; the defs. -/
namespace Law
open Ip
def enP (p : List Nm) : D := .tup (p.map .str)
def enr (r : Rl) : D := .tup [enP r.1, .str r.2]
def en2 (p : List Nm) : D := .tup [.int p.length, enP p]
def enR (R : List Rl) : D := .tup (R.map enr)
theorem map_str_inj : ∀ {l m : List Nm}, l.map D.str = m.map D.str → l = m
  | [], [], _ => rfl
  | [], _ :: _, e => by simp at e
  | _ :: _, [], e => by simp at e
  | a :: l, b :: m, e => by
    rw [List.map_cons, List.map_cons] at e
    obtain ⟨e1, e2⟩ := List.cons.inj e
    cases e1
    rw [map_str_inj e2]
theorem alike_str : ∀ (l m : List Nm), alikeDs (l.map D.str) (m.map D.str) = true
  | [], m => by cases m <;> simp [alikeDs]
  | _ :: _, [] => by simp [alikeDs]
  | a :: l, b :: m => by
    rw [List.map_cons, List.map_cons, alikeDs, alike_str l m]
    simp [alikeD]
theorem cano_str (n : Nat) (l : List Nm) : (l.map D.str).all (cano n) = true := by
  rw [List.all_map, List.all_eq_true]
  intro a _
  cases n <;> rfl
theorem hsh_str (n : Nat) (l : List Nm) : (l.map D.str).all (hsh n) = true := by
  rw [List.all_map, List.all_eq_true]
  intro a _
  cases n <;> rfl
theorem En_str : En D.str := ⟨fun a b e => by cases e; rfl, fun _ => rfl, fun _ _ => rfl, .inl fun _ => rfl⟩
theorem En_P : En enP := ⟨fun a b e => map_str_inj (by injection e), fun a => cano_str 4 a, fun a b => by unfold enP; rw [alikeD]; exact alike_str a b, .inr fun a => by
  show (true && (a.map D.str).all (hsh 7)) = true
  rw [hsh_str]
  rfl⟩
theorem En_r : En enr := ⟨fun a b e => by
    obtain ⟨a1, a2⟩ := a
    obtain ⟨b1, b2⟩ := b
    unfold enr at e
    injection e with e
    obtain ⟨e1, e2⟩ := List.cons.inj e
    obtain ⟨e3, _⟩ := List.cons.inj e2
    have e4 := En_P.inj _ _ e1
    injection e3 with e3
    dsimp only at e3 e4
    rw [e3, e4], fun a => by
    show (cano 4 (enP a.1) && (cano 4 (.str a.2) && true)) = true
    rw [show cano 4 (enP a.1) = true from cano_str 3 a.1]
    rfl, fun a b => by
    unfold enr
    rw [alikeD, alikeDs, En_P.al, alikeDs, alikeDs]
    simp [alikeD], .inr fun a => by
    show (true && (hsh 7 (enP a.1) && (hsh 7 (.str a.2) && true))) = true
    rw [show hsh 7 (enP a.1) = true from hsh_str 6 a.1]
    rfl⟩
theorem En_2 : En en2 := ⟨fun a b e => by
    unfold en2 at e
    injection e with e
    obtain ⟨_, e2⟩ := List.cons.inj e
    obtain ⟨e3, _⟩ := List.cons.inj e2
    exact En_P.inj _ _ e3, fun a => by
    show (cano 4 (.int a.length) && (cano 4 (enP a) && true)) = true
    rw [show cano 4 (enP a) = true from cano_str 3 a]
    rfl, fun a b => by
    unfold en2
    rw [alikeD, alikeDs, alikeDs, En_P.al, alikeDs]
    simp [alikeD], .inr fun a => by
    show (true && (hsh 7 (.int a.length) && (hsh 7 (enP a) && true))) = true
    rw [show hsh 7 (enP a) = true from hsh_str 6 a]
    rfl⟩
theorem it_P {p : List Nm} : itD .seq [enP p] = some (p.map .str) := id rfl
theorem it_R {R : List Rl} : itD .seq [enR R] = some (R.map enr) := id rfl
theorem in_P {c : Nm} {p : List Nm} : cmpD .in_ (.str c) (enP p) = some (decide (c ∈ p)) := En_str.inT c p
theorem nin_P {c : Nm} {p : List Nm} : cmpD .notIn (.str c) (enP p) = some (!decide (c ∈ p)) := En_str.ninT c p
theorem tuple_P {p : List Nm} : biD .tuple [.lst (p.map .str)] = some (enP p) := id rfl
theorem len_P {p : List Nm} : biD .len [enP p] = some (.int p.length) := by
  show some (D.int ((p.map D.str).length : Nat)) = _
  rw [List.length_map]
theorem itT {α : Type} {en : α → D} {l : List α} : itD .seq [.tup (l.map en)] = some (l.map en) := id rfl
theorem itL {α : Type} {en : α → D} {l : List α} : itD .seq [.lst (l.map en)] = some (l.map en) := id rfl
section
variable {wn k : Nat} {K : D → Prop} {R : List Rl} {X N P M : List Nm} {c : Nm}
theorem tl_in (hc : c ∈ N) : decide (c ∈ N.filter (tl R X)) = tl R X c := by
  rw [Bool.eq_iff_iff, decide_eq_true_iff, List.mem_filter]
  exact ⟨fun h => h.2, fun h => ⟨hc, h⟩⟩
/-- in order -/
theorem srt_names {l : List Nm} (hN : NO N) (hl : l.Nodup) (hs : l ⊆ N) : srt D.str l = res N l := by
  refine srt_eq En_str (sortable_at En_str l fun _ => rfl) ?_ ?_
  · refine (List.perm_ext_iff_of_nodup hl (hN.nd.sublist res_sub)).mpr fun a => ?_
    rw [mem_res]
    exact ⟨fun h => ⟨hs h, h⟩, fun h => h.2⟩
  · exact (hN.so.sublist res_sub).imp fun h => h
theorem sub_nodup (hN : NO N) (h : X.Sublist N) : X.Nodup := hN.nd.sublist h
theorem sub_len (hN : NO N) (h : X.Sublist N) : X.length ≤ 5 := Nat.le_trans h.length_le hN.l5
theorem c_told_names {d : D} (hw : 10 ≤ wn) (hN : NO N) (hR : RO N R) (hd : itD .seq [d] = some (X.map .str)) (hX : X.Sublist N) (hk : K (enP (N.filter (tl R X)))) : Cl (G wn (k + 1)) 0 [d, enR R] K := by
  have sz : szL = 16777216 := rfl
  have x5 := sub_len hN hX
  have n5 := hN.l5
  refine cl_def rfl rfl rfl ?_
  simp only [u_told_names, wp_con, wp_loc, wp_bin, wp_neg, wp_not, wp_and, wp_or, wp_ite, wp_cmp, wp_chain, wp_tup, wp_lst, wp_call, wp_bi, wp_isi, wp_sub, wp_sli, wp_rev, wp_lc, wp_dct, wp_dc, wp_me, wp_glo, wps_nil, wps_cons, wpos_nil, wpos_cons, wpts_nil, wpts_cons, wpo_none, wpo_some, wxs_nil, wxs_cons, wx_set, wx_par, wx_tgt, wx_aug, wx_app, wx_ext, wx_sti, wx_dput, wx_exp, wx_ret, wx_ife, wx_for, wx_brk, wx_cnt, wx_pas, wx_fz, mkW_v, mkW_o, mkW_t, opt_some, asI_int, evV_0, evV_s, evL_0, evL_s, setO_f, setO_T, setO_l, frz_nil, frz_cons, List.getElem?_cons_zero, List.getElem?_cons_succ, List.set_cons_zero, List.set_cons_succ, ownL_0, ownL_s, ownD_0, ownD_s, setO_d, pairUp_nil, pairUp_cons, dPuts_nil, setOs_nil, setOs_cons, bindAll_nil, bindAll_cons, bindT_nm, bindT_tp, bindTs_nil, bindTs_cons, wipeE_nil, wipeE_cons, Option.bind_some, Option.map_some, ends, cl_args, List.map_cons, List.map_nil, List.cons_append, List.nil_append, rep_0, rep_s, truD_bl, Bool.not_not, if_true_eq, if_false_eq, isStr, if_true, if_false, Bool.false_eq_true, eq_self, hd]
  refine wdc_keys (en := D.str) (v := .bl true) En_str (fun _ => rfl) (fun s K' hK' => ?_) X [] ?_ ?_
  · simp only [wdT, k1_told_names, e1_told_names, wp_con, wp_loc, wp_bin, wp_neg, wp_not, wp_and, wp_or, wp_ite, wp_cmp, wp_chain, wp_tup, wp_lst, wp_call, wp_bi, wp_isi, wp_sub, wp_sli, wp_rev, wp_lc, wp_dct, wp_dc, wp_me, wp_glo, wps_nil, wps_cons, wpos_nil, wpos_cons, wpts_nil, wpts_cons, wpo_none, wpo_some, wxs_nil, wxs_cons, wx_set, wx_par, wx_tgt, wx_aug, wx_app, wx_ext, wx_sti, wx_dput, wx_exp, wx_ret, wx_ife, wx_for, wx_brk, wx_cnt, wx_pas, wx_fz, mkW_v, mkW_o, mkW_t, opt_some, asI_int, evV_0, evV_s, evL_0, evL_s, setO_f, setO_T, setO_l, frz_nil, frz_cons, List.getElem?_cons_zero, List.getElem?_cons_succ, List.set_cons_zero, List.set_cons_succ, ownL_0, ownL_s, ownD_0, ownD_s, setO_d, pairUp_nil, pairUp_cons, dPuts_nil, setOs_nil, setOs_cons, bindAll_nil, bindAll_cons, bindT_nm, bindT_tp, bindTs_nil, bindTs_cons, wipeE_nil, wipeE_cons, Option.bind_some, Option.map_some, ends, cl_args, List.map_cons, List.map_nil, List.cons_append, List.nil_append, rep_0, rep_s, truD_bl, Bool.not_not, if_true_eq, if_false_eq, isStr, if_true, if_false, Bool.false_eq_true, eq_self]
    exact hK'
  · simp
    omega
  · obtain ⟨nd, me⟩ := fold_addE X [] .nil
    generalize X.foldl addE [] = l0 at nd me ⊢
    have sN : l0 ⊆ N := fun x hx => hX.subset (by simpa using (me x).mp hx)
    have ln := len_sub nd sN
    simp only [wp_con, wp_loc, wp_bin, wp_neg, wp_not, wp_and, wp_or, wp_ite, wp_cmp, wp_chain, wp_tup, wp_lst, wp_call, wp_bi, wp_isi, wp_sub, wp_sli, wp_rev, wp_lc, wp_dct, wp_dc, wp_me, wp_glo, wps_nil, wps_cons, wpos_nil, wpos_cons, wpts_nil, wpts_cons, wpo_none, wpo_some, wxs_nil, wxs_cons, wx_set, wx_par, wx_tgt, wx_aug, wx_app, wx_ext, wx_sti, wx_dput, wx_exp, wx_ret, wx_ife, wx_for, wx_brk, wx_cnt, wx_pas, wx_fz, mkW_v, mkW_o, mkW_t, opt_some, asI_int, evV_0, evV_s, evL_0, evL_s, setO_f, setO_T, setO_l, frz_nil, frz_cons, List.getElem?_cons_zero, List.getElem?_cons_succ, List.set_cons_zero, List.set_cons_succ, ownL_0, ownL_s, ownD_0, ownD_s, setO_d, pairUp_nil, pairUp_cons, dPuts_nil, setOs_nil, setOs_cons, bindAll_nil, bindAll_cons, bindT_nm, bindT_tp, bindTs_nil, bindTs_cons, wipeE_nil, wipeE_cons, Option.bind_some, Option.map_some, ends, cl_args, List.map_cons, List.map_nil, List.cons_append, List.nil_append, rep_0, rep_s, truD_bl, Bool.not_not, if_true_eq, if_false_eq, isStr, if_true, if_false, Bool.false_eq_true, eq_self, ut1_told_names]
    rw [wx_whl]
    refine while_inv (fun m r => ∃ l ch, r = [some (false, d), some (false, enR R), some (true, .dic (kvE .str (.bl true) l)), some (false, .bl ch), none, none, none] ∧ l.Nodup ∧ X ⊆ l ∧ l ⊆ N ∧ (∀ c ∈ l, told R X c) ∧ (ch = false → Cls R l) ∧ m = (N.length - l.length) + (if ch = true then 1 else 0)) (m := N.length - l0.length + 1) ?_ ?_ ?_
    · show N.length - l0.length + 1 < wn
      omega
    · exact ⟨l0, true, rfl, nd, fun x hx => (me x).mpr (.inr hx), sN, fun c hc => told_mem (by simpa using (me c).mp hc), (nofun), by simp⟩
    · rintro m r ⟨l, ch, rfl, h1, h2, h3, h4, h5, h6⟩
      have hl := len_sub h1 h3
      cases ch with
      | false =>
        simp only [wp_con, wp_loc, wp_bin, wp_neg, wp_not, wp_and, wp_or, wp_ite, wp_cmp, wp_chain, wp_tup, wp_lst, wp_call, wp_bi, wp_isi, wp_sub, wp_sli, wp_rev, wp_lc, wp_dct, wp_dc, wp_me, wp_glo, wps_nil, wps_cons, wpos_nil, wpos_cons, wpts_nil, wpts_cons, wpo_none, wpo_some, wxs_nil, wxs_cons, wx_set, wx_par, wx_tgt, wx_aug, wx_app, wx_ext, wx_sti, wx_dput, wx_exp, wx_ret, wx_ife, wx_for, wx_brk, wx_cnt, wx_pas, wx_fz, mkW_v, mkW_o, mkW_t, opt_some, asI_int, evV_0, evV_s, evL_0, evL_s, setO_f, setO_T, setO_l, frz_nil, frz_cons, List.getElem?_cons_zero, List.getElem?_cons_succ, List.set_cons_zero, List.set_cons_succ, ownL_0, ownL_s, ownD_0, ownD_s, setO_d, pairUp_nil, pairUp_cons, dPuts_nil, setOs_nil, setOs_cons, bindAll_nil, bindAll_cons, bindT_nm, bindT_tp, bindTs_nil, bindTs_cons, wipeE_nil, wipeE_cons, Option.bind_some, Option.map_some, ends, cl_args, List.map_cons, List.map_nil, List.cons_append, List.nil_append, rep_0, rep_s, truD_bl, Bool.not_not, if_true_eq, if_false_eq, isStr, if_true, if_false, Bool.false_eq_true, eq_self, ut2_told_names, sorted_dic (sortable_at En_str l fun _ => rfl), srt_names hN h1 h3, tuple_P]
        have e : res N l = N.filter (tl R X) := filter_ext fun c hc => by
          rw [decide_eq_true_iff, tl_iff]
          exact ⟨h4 c, fun t => t l h2 (h5 rfl)⟩
        rw [e]
        exact hk
      | true =>
        simp only [wp_con, wp_loc, wp_bin, wp_neg, wp_not, wp_and, wp_or, wp_ite, wp_cmp, wp_chain, wp_tup, wp_lst, wp_call, wp_bi, wp_isi, wp_sub, wp_sli, wp_rev, wp_lc, wp_dct, wp_dc, wp_me, wp_glo, wps_nil, wps_cons, wpos_nil, wpos_cons, wpts_nil, wpts_cons, wpo_none, wpo_some, wxs_nil, wxs_cons, wx_set, wx_par, wx_tgt, wx_aug, wx_app, wx_ext, wx_sti, wx_dput, wx_exp, wx_ret, wx_ife, wx_for, wx_brk, wx_cnt, wx_pas, wx_fz, mkW_v, mkW_o, mkW_t, opt_some, asI_int, evV_0, evV_s, evL_0, evL_s, setO_f, setO_T, setO_l, frz_nil, frz_cons, List.getElem?_cons_zero, List.getElem?_cons_succ, List.set_cons_zero, List.set_cons_succ, ownL_0, ownL_s, ownD_0, ownD_s, setO_d, pairUp_nil, pairUp_cons, dPuts_nil, setOs_nil, setOs_cons, bindAll_nil, bindAll_cons, bindT_nm, bindT_tp, bindTs_nil, bindTs_cons, wipeE_nil, wipeE_cons, Option.bind_some, Option.map_some, ends, cl_args, List.map_cons, List.map_nil, List.cons_append, List.nil_append, rep_0, rep_s, truD_bl, Bool.not_not, if_true_eq, if_false_eq, isStr, if_true, if_false, Bool.false_eq_true, eq_self, w1_told_names, w1t1_told_names, it_R]
        refine for_inv (fun (rest : List Rl) r => ∃ l' ch, r = [some (false, d), some (false, enR R), some (true, .dic (kvE .str (.bl true) l')), some (false, .bl ch), none, none, none] ∧ l'.Nodup ∧ l ⊆ l' ∧ l' ⊆ N ∧ (∀ c ∈ l', told R X c) ∧ (∀ r ∈ rest, r ∈ R) ∧ (ch = false → l' = l ∧ ∀ r ∈ R, r ∈ rest ∨ (r.1 ⊆ l → r.2 ∈ l)) ∧ (ch = true → l.length < l'.length)) ?_ ?_ ?_
        · exact ⟨l, false, rfl, h1, fun _ h => h, h3, h4, fun _ h => h, fun _ => ⟨rfl, fun r hr => .inl hr⟩, (nofun)⟩
        · rintro z rest r ⟨l', ch, rfl, g1, g2, g3, g4, g5, g6, g7⟩
          have hl' := len_sub g1 g3
          have hz := g5 z List.mem_cons_self
          simp only [wfT, b1_told_names, enr, wp_con, wp_loc, wp_bin, wp_neg, wp_not, wp_and, wp_or, wp_ite, wp_cmp, wp_chain, wp_tup, wp_lst, wp_call, wp_bi, wp_isi, wp_sub, wp_sli, wp_rev, wp_lc, wp_dct, wp_dc, wp_me, wp_glo, wps_nil, wps_cons, wpos_nil, wpos_cons, wpts_nil, wpts_cons, wpo_none, wpo_some, wxs_nil, wxs_cons, wx_set, wx_par, wx_tgt, wx_aug, wx_app, wx_ext, wx_sti, wx_dput, wx_exp, wx_ret, wx_ife, wx_for, wx_brk, wx_cnt, wx_pas, wx_fz, mkW_v, mkW_o, mkW_t, opt_some, asI_int, evV_0, evV_s, evL_0, evL_s, setO_f, setO_T, setO_l, frz_nil, frz_cons, List.getElem?_cons_zero, List.getElem?_cons_succ, List.set_cons_zero, List.set_cons_succ, ownL_0, ownL_s, ownD_0, ownD_s, setO_d, pairUp_nil, pairUp_cons, dPuts_nil, setOs_nil, setOs_cons, bindAll_nil, bindAll_cons, bindT_nm, bindT_tp, bindTs_nil, bindTs_cons, wipeE_nil, wipeE_cons, Option.bind_some, Option.map_some, ends, cl_args, List.map_cons, List.map_nil, List.cons_append, List.nil_append, rep_0, rep_s, truD_bl, Bool.not_not, if_true_eq, if_false_eq, isStr, if_true, if_false, Bool.false_eq_true, eq_self, kvE_nin En_str]
          by_cases c1 : z.2 ∈ l'
          · simp only [decide_eq_true c1, Bool.not_true, wp_con, wp_loc, wp_bin, wp_neg, wp_not, wp_and, wp_or, wp_ite, wp_cmp, wp_chain, wp_tup, wp_lst, wp_call, wp_bi, wp_isi, wp_sub, wp_sli, wp_rev, wp_lc, wp_dct, wp_dc, wp_me, wp_glo, wps_nil, wps_cons, wpos_nil, wpos_cons, wpts_nil, wpts_cons, wpo_none, wpo_some, wxs_nil, wxs_cons, wx_set, wx_par, wx_tgt, wx_aug, wx_app, wx_ext, wx_sti, wx_dput, wx_exp, wx_ret, wx_ife, wx_for, wx_brk, wx_cnt, wx_pas, wx_fz, mkW_v, mkW_o, mkW_t, opt_some, asI_int, evV_0, evV_s, evL_0, evL_s, setO_f, setO_T, setO_l, frz_nil, frz_cons, List.getElem?_cons_zero, List.getElem?_cons_succ, List.set_cons_zero, List.set_cons_succ, ownL_0, ownL_s, ownD_0, ownD_s, setO_d, pairUp_nil, pairUp_cons, dPuts_nil, setOs_nil, setOs_cons, bindAll_nil, bindAll_cons, bindT_nm, bindT_tp, bindTs_nil, bindTs_cons, wipeE_nil, wipeE_cons, Option.bind_some, Option.map_some, ends, cl_args, List.map_cons, List.map_nil, List.cons_append, List.nil_append, rep_0, rep_s, truD_bl, Bool.not_not, if_true_eq, if_false_eq, isStr, if_true, if_false, Bool.false_eq_true, eq_self]
            refine ⟨_, ?_, l', ch, rfl, g1, g2, g3, g4, fun r hr => g5 r (List.mem_cons_of_mem _ hr), fun q => ?_, g7⟩
            · (apply LeI.le; repeat (first | exact LeI.nil | apply LeI.s | apply LeI.n | apply LeI.r))
            · obtain ⟨q1, q2⟩ := g6 q
              refine ⟨q1, fun r hr => ?_⟩
              rcases q2 r hr with q2 | q2
              · rcases List.mem_cons.mp q2 with rfl | q2
                · exact .inr fun _ => q1 ▸ c1
                · exact .inl q2
              · exact .inr q2
          · simp only [decide_eq_false c1, Bool.not_false, wp_con, wp_loc, wp_bin, wp_neg, wp_not, wp_and, wp_or, wp_ite, wp_cmp, wp_chain, wp_tup, wp_lst, wp_call, wp_bi, wp_isi, wp_sub, wp_sli, wp_rev, wp_lc, wp_dct, wp_dc, wp_me, wp_glo, wps_nil, wps_cons, wpos_nil, wpos_cons, wpts_nil, wpts_cons, wpo_none, wpo_some, wxs_nil, wxs_cons, wx_set, wx_par, wx_tgt, wx_aug, wx_app, wx_ext, wx_sti, wx_dput, wx_exp, wx_ret, wx_ife, wx_for, wx_brk, wx_cnt, wx_pas, wx_fz, mkW_v, mkW_o, mkW_t, opt_some, asI_int, evV_0, evV_s, evL_0, evL_s, setO_f, setO_T, setO_l, frz_nil, frz_cons, List.getElem?_cons_zero, List.getElem?_cons_succ, List.set_cons_zero, List.set_cons_succ, ownL_0, ownL_s, ownD_0, ownD_s, setO_d, pairUp_nil, pairUp_cons, dPuts_nil, setOs_nil, setOs_cons, bindAll_nil, bindAll_cons, bindT_nm, bindT_tp, bindTs_nil, bindTs_cons, wipeE_nil, wipeE_cons, Option.bind_some, Option.map_some, ends, cl_args, List.map_cons, List.map_nil, List.cons_append, List.nil_append, rep_0, rep_s, truD_bl, Bool.not_not, if_true_eq, if_false_eq, isStr, if_true, if_false, Bool.false_eq_true, eq_self, it_P]
            refine wlc_all (fun s => decide (s ∈ l')) (fun s hs K' hK' => ?_) ?_
            · simp only [wlT, e2_told_names, wp_con, wp_loc, wp_bin, wp_neg, wp_not, wp_and, wp_or, wp_ite, wp_cmp, wp_chain, wp_tup, wp_lst, wp_call, wp_bi, wp_isi, wp_sub, wp_sli, wp_rev, wp_lc, wp_dct, wp_dc, wp_me, wp_glo, wps_nil, wps_cons, wpos_nil, wpos_cons, wpts_nil, wpts_cons, wpo_none, wpo_some, wxs_nil, wxs_cons, wx_set, wx_par, wx_tgt, wx_aug, wx_app, wx_ext, wx_sti, wx_dput, wx_exp, wx_ret, wx_ife, wx_for, wx_brk, wx_cnt, wx_pas, wx_fz, mkW_v, mkW_o, mkW_t, opt_some, asI_int, evV_0, evV_s, evL_0, evL_s, setO_f, setO_T, setO_l, frz_nil, frz_cons, List.getElem?_cons_zero, List.getElem?_cons_succ, List.set_cons_zero, List.set_cons_succ, ownL_0, ownL_s, ownD_0, ownD_s, setO_d, pairUp_nil, pairUp_cons, dPuts_nil, setOs_nil, setOs_cons, bindAll_nil, bindAll_cons, bindT_nm, bindT_tp, bindTs_nil, bindTs_cons, wipeE_nil, wipeE_cons, Option.bind_some, Option.map_some, ends, cl_args, List.map_cons, List.map_nil, List.cons_append, List.nil_append, rep_0, rep_s, truD_bl, Bool.not_not, if_true_eq, if_false_eq, isStr, if_true, if_false, Bool.false_eq_true, eq_self, kvE_in En_str]
              exact hK'
            · simp only [wp_con, wp_loc, wp_bin, wp_neg, wp_not, wp_and, wp_or, wp_ite, wp_cmp, wp_chain, wp_tup, wp_lst, wp_call, wp_bi, wp_isi, wp_sub, wp_sli, wp_rev, wp_lc, wp_dct, wp_dc, wp_me, wp_glo, wps_nil, wps_cons, wpos_nil, wpos_cons, wpts_nil, wpts_cons, wpo_none, wpo_some, wxs_nil, wxs_cons, wx_set, wx_par, wx_tgt, wx_aug, wx_app, wx_ext, wx_sti, wx_dput, wx_exp, wx_ret, wx_ife, wx_for, wx_brk, wx_cnt, wx_pas, wx_fz, mkW_v, mkW_o, mkW_t, opt_some, asI_int, evV_0, evV_s, evL_0, evL_s, setO_f, setO_T, setO_l, frz_nil, frz_cons, List.getElem?_cons_zero, List.getElem?_cons_succ, List.set_cons_zero, List.set_cons_succ, ownL_0, ownL_s, ownD_0, ownD_s, setO_d, pairUp_nil, pairUp_cons, dPuts_nil, setOs_nil, setOs_cons, bindAll_nil, bindAll_cons, bindT_nm, bindT_tp, bindTs_nil, bindTs_cons, wipeE_nil, wipeE_cons, Option.bind_some, Option.map_some, ends, cl_args, List.map_cons, List.map_nil, List.cons_append, List.nil_append, rep_0, rep_s, truD_bl, Bool.not_not, if_true_eq, if_false_eq, isStr, if_true, if_false, Bool.false_eq_true, eq_self]
              cases hb : (z.1.all fun s => decide (s ∈ l')) with
              | false =>
                simp only [wp_con, wp_loc, wp_bin, wp_neg, wp_not, wp_and, wp_or, wp_ite, wp_cmp, wp_chain, wp_tup, wp_lst, wp_call, wp_bi, wp_isi, wp_sub, wp_sli, wp_rev, wp_lc, wp_dct, wp_dc, wp_me, wp_glo, wps_nil, wps_cons, wpos_nil, wpos_cons, wpts_nil, wpts_cons, wpo_none, wpo_some, wxs_nil, wxs_cons, wx_set, wx_par, wx_tgt, wx_aug, wx_app, wx_ext, wx_sti, wx_dput, wx_exp, wx_ret, wx_ife, wx_for, wx_brk, wx_cnt, wx_pas, wx_fz, mkW_v, mkW_o, mkW_t, opt_some, asI_int, evV_0, evV_s, evL_0, evL_s, setO_f, setO_T, setO_l, frz_nil, frz_cons, List.getElem?_cons_zero, List.getElem?_cons_succ, List.set_cons_zero, List.set_cons_succ, ownL_0, ownL_s, ownD_0, ownD_s, setO_d, pairUp_nil, pairUp_cons, dPuts_nil, setOs_nil, setOs_cons, bindAll_nil, bindAll_cons, bindT_nm, bindT_tp, bindTs_nil, bindTs_cons, wipeE_nil, wipeE_cons, Option.bind_some, Option.map_some, ends, cl_args, List.map_cons, List.map_nil, List.cons_append, List.nil_append, rep_0, rep_s, truD_bl, Bool.not_not, if_true_eq, if_false_eq, isStr, if_true, if_false, Bool.false_eq_true, eq_self]
                refine ⟨_, ?_, l', ch, rfl, g1, g2, g3, g4, fun r hr => g5 r (List.mem_cons_of_mem _ hr), fun q => ?_, g7⟩
                · (apply LeI.le; repeat (first | exact LeI.nil | apply LeI.s | apply LeI.n | apply LeI.r))
                · obtain ⟨q1, q2⟩ := g6 q
                  refine ⟨q1, fun r hr => ?_⟩
                  rcases q2 r hr with q2 | q2
                  · rcases List.mem_cons.mp q2 with rfl | q2
                    · refine .inr fun q3 => ?_
                      rw [List.all_eq_false] at hb
                      obtain ⟨x, hx, hx2⟩ := hb
                      rw [← q1] at q3
                      exact absurd (q3 hx) (by simpa using hx2)
                    · exact .inl q2
                  · exact .inr q2
              | true =>
                have hb' : z.1 ⊆ l' := fun x hx => by simpa using (List.all_eq_true.mp hb) x hx
                simp only [wp_con, wp_loc, wp_bin, wp_neg, wp_not, wp_and, wp_or, wp_ite, wp_cmp, wp_chain, wp_tup, wp_lst, wp_call, wp_bi, wp_isi, wp_sub, wp_sli, wp_rev, wp_lc, wp_dct, wp_dc, wp_me, wp_glo, wps_nil, wps_cons, wpos_nil, wpos_cons, wpts_nil, wpts_cons, wpo_none, wpo_some, wxs_nil, wxs_cons, wx_set, wx_par, wx_tgt, wx_aug, wx_app, wx_ext, wx_sti, wx_dput, wx_exp, wx_ret, wx_ife, wx_for, wx_brk, wx_cnt, wx_pas, wx_fz, mkW_v, mkW_o, mkW_t, opt_some, asI_int, evV_0, evV_s, evL_0, evL_s, setO_f, setO_T, setO_l, frz_nil, frz_cons, List.getElem?_cons_zero, List.getElem?_cons_succ, List.set_cons_zero, List.set_cons_succ, ownL_0, ownL_s, ownD_0, ownD_s, setO_d, pairUp_nil, pairUp_cons, dPuts_nil, setOs_nil, setOs_cons, bindAll_nil, bindAll_cons, bindT_nm, bindT_tp, bindTs_nil, bindTs_cons, wipeE_nil, wipeE_cons, Option.bind_some, Option.map_some, ends, cl_args, List.map_cons, List.map_nil, List.cons_append, List.nil_append, rep_0, rep_s, truD_bl, Bool.not_not, if_true_eq, if_false_eq, isStr, if_true, if_false, Bool.false_eq_true, eq_self, kvE_put En_str]
                refine ⟨⟨kvE_ok En_str, by rw [kvE_len]; omega⟩, _, ?_, addE l' z.2, true, rfl, addE_nodup g1, fun x hx => addE_mem.mpr (.inl (g2 hx)), fun x hx => ?_, fun x hx => ?_, fun r hr => g5 r (List.mem_cons_of_mem _ hr), (nofun), fun _ => ?_⟩
                · (apply LeI.le; repeat (first | exact LeI.nil | apply LeI.s | apply LeI.n | apply LeI.r))
                · rcases addE_mem.mp hx with q | rfl
                  · exact g3 q
                  · exact (hR z hz).2
                · rcases addE_mem.mp hx with q | rfl
                  · exact g4 x q
                  · exact told_trans (fun y hy => g4 y (hb' hy)) (told_rule hz)
                · have := len_sub h1 g2
                  unfold addE
                  rw [if_neg c1, List.length_append, List.length_singleton]
                  omega
        · rintro r ⟨l', ch, rfl, g1, g2, g3, g4, g5, g6, g7⟩
          have hl' := len_sub g1 g3
          simp only [wp_con, wp_loc, wp_bin, wp_neg, wp_not, wp_and, wp_or, wp_ite, wp_cmp, wp_chain, wp_tup, wp_lst, wp_call, wp_bi, wp_isi, wp_sub, wp_sli, wp_rev, wp_lc, wp_dct, wp_dc, wp_me, wp_glo, wps_nil, wps_cons, wpos_nil, wpos_cons, wpts_nil, wpts_cons, wpo_none, wpo_some, wxs_nil, wxs_cons, wx_set, wx_par, wx_tgt, wx_aug, wx_app, wx_ext, wx_sti, wx_dput, wx_exp, wx_ret, wx_ife, wx_for, wx_brk, wx_cnt, wx_pas, wx_fz, mkW_v, mkW_o, mkW_t, opt_some, asI_int, evV_0, evV_s, evL_0, evL_s, setO_f, setO_T, setO_l, frz_nil, frz_cons, List.getElem?_cons_zero, List.getElem?_cons_succ, List.set_cons_zero, List.set_cons_succ, ownL_0, ownL_s, ownD_0, ownD_s, setO_d, pairUp_nil, pairUp_cons, dPuts_nil, setOs_nil, setOs_cons, bindAll_nil, bindAll_cons, bindT_nm, bindT_tp, bindTs_nil, bindTs_cons, wipeE_nil, wipeE_cons, Option.bind_some, Option.map_some, ends, cl_args, List.map_cons, List.map_nil, List.cons_append, List.nil_append, rep_0, rep_s, truD_bl, Bool.not_not, if_true_eq, if_false_eq, isStr, if_true, if_false, Bool.false_eq_true, eq_self]
          refine ⟨_, ?_, _, ?_, l', ch, rfl, g1, fun x hx => g2 (h2 hx), g3, g4, fun q => ?_, rfl⟩
          · (apply LeI.le; repeat (first | exact LeI.nil | apply LeI.s | apply LeI.n | apply LeI.r))
          · rw [h6]
            cases ch with
            | false =>
              obtain ⟨q1, _⟩ := g6 rfl
              rw [q1]
              simp
            | true =>
              have := g7 rfl
              simp
              omega
          · obtain ⟨q1, q2⟩ := g6 q
            rw [q1]
            intro r hr hs
            rcases q2 r hr with q2 | q2
            · cases q2
            · exact q2 hs
theorem c_does_tell (hw : 10 ≤ wn) (hN : NO N) (hR : RO N R) (hX : X.Sublist N) (hc : c ∈ N) (hk : K (.bl (tl R X c))) : Cl (G wn (k + 2)) 1 [enR R, enP X, .str c] K := by
  refine cl_def rfl rfl rfl ?_
  simp only [u_does_tell, wp_con, wp_loc, wp_bin, wp_neg, wp_not, wp_and, wp_or, wp_ite, wp_cmp, wp_chain, wp_tup, wp_lst, wp_call, wp_bi, wp_isi, wp_sub, wp_sli, wp_rev, wp_lc, wp_dct, wp_dc, wp_me, wp_glo, wps_nil, wps_cons, wpos_nil, wpos_cons, wpts_nil, wpts_cons, wpo_none, wpo_some, wxs_nil, wxs_cons, wx_set, wx_par, wx_tgt, wx_aug, wx_app, wx_ext, wx_sti, wx_dput, wx_exp, wx_ret, wx_ife, wx_for, wx_brk, wx_cnt, wx_pas, wx_fz, mkW_v, mkW_o, mkW_t, opt_some, asI_int, evV_0, evV_s, evL_0, evL_s, setO_f, setO_T, setO_l, frz_nil, frz_cons, List.getElem?_cons_zero, List.getElem?_cons_succ, List.set_cons_zero, List.set_cons_succ, ownL_0, ownL_s, ownD_0, ownD_s, setO_d, pairUp_nil, pairUp_cons, dPuts_nil, setOs_nil, setOs_cons, bindAll_nil, bindAll_cons, bindT_nm, bindT_tp, bindTs_nil, bindTs_cons, wipeE_nil, wipeE_cons, Option.bind_some, Option.map_some, ends, cl_args, List.map_cons, List.map_nil, List.cons_append, List.nil_append, rep_0, rep_s, truD_bl, Bool.not_not, if_true_eq, if_false_eq, isStr, if_true, if_false, Bool.false_eq_true, eq_self]
  refine c_told_names hw hN hR it_P hX ?_
  simp only [wp_con, wp_loc, wp_bin, wp_neg, wp_not, wp_and, wp_or, wp_ite, wp_cmp, wp_chain, wp_tup, wp_lst, wp_call, wp_bi, wp_isi, wp_sub, wp_sli, wp_rev, wp_lc, wp_dct, wp_dc, wp_me, wp_glo, wps_nil, wps_cons, wpos_nil, wpos_cons, wpts_nil, wpts_cons, wpo_none, wpo_some, wxs_nil, wxs_cons, wx_set, wx_par, wx_tgt, wx_aug, wx_app, wx_ext, wx_sti, wx_dput, wx_exp, wx_ret, wx_ife, wx_for, wx_brk, wx_cnt, wx_pas, wx_fz, mkW_v, mkW_o, mkW_t, opt_some, asI_int, evV_0, evV_s, evL_0, evL_s, setO_f, setO_T, setO_l, frz_nil, frz_cons, List.getElem?_cons_zero, List.getElem?_cons_succ, List.set_cons_zero, List.set_cons_succ, ownL_0, ownL_s, ownD_0, ownD_s, setO_d, pairUp_nil, pairUp_cons, dPuts_nil, setOs_nil, setOs_cons, bindAll_nil, bindAll_cons, bindT_nm, bindT_tp, bindTs_nil, bindTs_cons, wipeE_nil, wipeE_cons, Option.bind_some, Option.map_some, ends, cl_args, List.map_cons, List.map_nil, List.cons_append, List.nil_append, rep_0, rep_s, truD_bl, Bool.not_not, if_true_eq, if_false_eq, isStr, if_true, if_false, Bool.false_eq_true, eq_self, in_P, tl_in hc]
  exact hk
/-! ### all parts -/
noncomputable def ap (M : List Nm) : List (List Nm) := srt en2 (pw M)
theorem mem_ap : X ∈ ap M ↔ X.Sublist M := by unfold ap; rw [mem_srt, mem_pw]
theorem ap_len (h : M.length ≤ 5) : (ap M).length ≤ 32 := by
  unfold ap
  rw [srt_len, pw_len]
  exact Nat.pow_le_pow_right (by decide) h
theorem ap_key : (ap M).Pairwise fun a b => a.length ≤ b.length := by
  have e : ∀ a b : List Nm, ltD (en2 a) (en2 b) = if a.length = b.length then ltDs [enP a] [enP b] else decide (a.length < b.length) := fun a b => by
    unfold en2
    rw [ltD, ltDs, eqD, ltD]
    by_cases h : a.length = b.length
    · simp [h]
    · simp [h, Int.ofNat_inj]
  unfold ap srt
  refine sortB_key List.length (fun a b h => ?_) (fun a b h => ?_) _
  · rw [e] at h
    split at h
    · omega
    · simp at h; omega
  · rw [e] at h
    split at h
    · omega
    · simp at h; omega
theorem srt_sub (hN : NO N) (h : M.Sublist N) : srt D.str M = M := by
  rw [srt_names hN (sub_nodup hN h) h.subset, ← sub_res hN.nd h]
theorem isTupC_2 (p : List Nm) : isTupC (en2 p) = true := id rfl
theorem c_all_parts (hN : NO N) (hM : M.Sublist N) (hk : K (.lst ((ap M).map enP))) : Cl (G wn (k + 1)) 2 [.lst (M.map .str)] K := by
  have sz : szL = 16777216 := rfl
  have m5 := sub_len hN hM
  refine cl_def rfl rfl rfl ?_
  simp only [u_all_parts_of, ut1_all_parts_of, wp_con, wp_loc, wp_bin, wp_neg, wp_not, wp_and, wp_or, wp_ite, wp_cmp, wp_chain, wp_tup, wp_lst, wp_call, wp_bi, wp_isi, wp_sub, wp_sli, wp_rev, wp_lc, wp_dct, wp_dc, wp_me, wp_glo, wps_nil, wps_cons, wpos_nil, wpos_cons, wpts_nil, wpts_cons, wpo_none, wpo_some, wxs_nil, wxs_cons, wx_set, wx_par, wx_tgt, wx_aug, wx_app, wx_ext, wx_sti, wx_dput, wx_exp, wx_ret, wx_ife, wx_for, wx_brk, wx_cnt, wx_pas, wx_fz, mkW_v, mkW_o, mkW_t, opt_some, asI_int, evV_0, evV_s, evL_0, evL_s, setO_f, setO_T, setO_l, frz_nil, frz_cons, List.getElem?_cons_zero, List.getElem?_cons_succ, List.set_cons_zero, List.set_cons_succ, ownL_0, ownL_s, ownD_0, ownD_s, setO_d, pairUp_nil, pairUp_cons, dPuts_nil, setOs_nil, setOs_cons, bindAll_nil, bindAll_cons, bindT_nm, bindT_tp, bindTs_nil, bindTs_cons, wipeE_nil, wipeE_cons, Option.bind_some, Option.map_some, ends, cl_args, List.map_cons, List.map_nil, List.cons_append, List.nil_append, rep_0, rep_s, truD_bl, Bool.not_not, if_true_eq, if_false_eq, isStr, if_true, if_false, Bool.false_eq_true, eq_self, sorted_lst (sortable_at En_str M fun _ => rfl), srt_sub hN hM, itL]
  refine for_inv (fun (rest : List Nm) r => ∃ dn, M = dn ++ rest ∧ r = [some (false, .lst (M.map .str)), some (false, .lst ((pw dn).map enP)), none, none, none]) ?_ ?_ ?_
  · exact ⟨[], rfl, rfl⟩
  · rintro z rest r ⟨dn, e, rfl⟩
    have dl : dn.length + 1 ≤ 5 := by have := congrArg List.length e; simp at this; omega
    simp only [wfT, b1_all_parts_of, wp_con, wp_loc, wp_bin, wp_neg, wp_not, wp_and, wp_or, wp_ite, wp_cmp, wp_chain, wp_tup, wp_lst, wp_call, wp_bi, wp_isi, wp_sub, wp_sli, wp_rev, wp_lc, wp_dct, wp_dc, wp_me, wp_glo, wps_nil, wps_cons, wpos_nil, wpos_cons, wpts_nil, wpts_cons, wpo_none, wpo_some, wxs_nil, wxs_cons, wx_set, wx_par, wx_tgt, wx_aug, wx_app, wx_ext, wx_sti, wx_dput, wx_exp, wx_ret, wx_ife, wx_for, wx_brk, wx_cnt, wx_pas, wx_fz, mkW_v, mkW_o, mkW_t, opt_some, asI_int, evV_0, evV_s, evL_0, evL_s, setO_f, setO_T, setO_l, frz_nil, frz_cons, List.getElem?_cons_zero, List.getElem?_cons_succ, List.set_cons_zero, List.set_cons_succ, ownL_0, ownL_s, ownD_0, ownD_s, setO_d, pairUp_nil, pairUp_cons, dPuts_nil, setOs_nil, setOs_cons, bindAll_nil, bindAll_cons, bindT_nm, bindT_tp, bindTs_nil, bindTs_cons, wipeE_nil, wipeE_cons, Option.bind_some, Option.map_some, ends, cl_args, List.map_cons, List.map_nil, List.cons_append, List.nil_append, rep_0, rep_s, truD_bl, Bool.not_not, if_true_eq, if_false_eq, isStr, if_true, if_false, Bool.false_eq_true, eq_self, itL]
    refine wlc_map (fun p => enP (p ++ [z])) (fun p hp K' hK' => ?_) ?_
    · have pl := (mem_pw.mp hp).length_le
      simp only [wlT, e1_all_parts_of, wp_con, wp_loc, wp_bin, wp_neg, wp_not, wp_and, wp_or, wp_ite, wp_cmp, wp_chain, wp_tup, wp_lst, wp_call, wp_bi, wp_isi, wp_sub, wp_sli, wp_rev, wp_lc, wp_dct, wp_dc, wp_me, wp_glo, wps_nil, wps_cons, wpos_nil, wpos_cons, wpts_nil, wpts_cons, wpo_none, wpo_some, wxs_nil, wxs_cons, wx_set, wx_par, wx_tgt, wx_aug, wx_app, wx_ext, wx_sti, wx_dput, wx_exp, wx_ret, wx_ife, wx_for, wx_brk, wx_cnt, wx_pas, wx_fz, mkW_v, mkW_o, mkW_t, opt_some, asI_int, evV_0, evV_s, evL_0, evL_s, setO_f, setO_T, setO_l, frz_nil, frz_cons, List.getElem?_cons_zero, List.getElem?_cons_succ, List.set_cons_zero, List.set_cons_succ, ownL_0, ownL_s, ownD_0, ownD_s, setO_d, pairUp_nil, pairUp_cons, dPuts_nil, setOs_nil, setOs_cons, bindAll_nil, bindAll_cons, bindT_nm, bindT_tp, bindTs_nil, bindTs_cons, wipeE_nil, wipeE_cons, Option.bind_some, Option.map_some, ends, cl_args, List.map_cons, List.map_nil, List.cons_append, List.nil_append, rep_0, rep_s, truD_bl, Bool.not_not, if_true_eq, if_false_eq, isStr, if_true, if_false, Bool.false_eq_true, eq_self, enP]
      rw [add_tup (by simp; omega)]
      simp only [enP, List.map_append, List.map_cons, List.map_nil] at hK'
      exact hK'
    · have l32 : 2 ^ dn.length ≤ 2 ^ 4 := Nat.pow_le_pow_right (by decide) (by omega)
      rw [add_lst (by simp [pw_len]; omega)]
      simp only [wp_con, wp_loc, wp_bin, wp_neg, wp_not, wp_and, wp_or, wp_ite, wp_cmp, wp_chain, wp_tup, wp_lst, wp_call, wp_bi, wp_isi, wp_sub, wp_sli, wp_rev, wp_lc, wp_dct, wp_dc, wp_me, wp_glo, wps_nil, wps_cons, wpos_nil, wpos_cons, wpts_nil, wpts_cons, wpo_none, wpo_some, wxs_nil, wxs_cons, wx_set, wx_par, wx_tgt, wx_aug, wx_app, wx_ext, wx_sti, wx_dput, wx_exp, wx_ret, wx_ife, wx_for, wx_brk, wx_cnt, wx_pas, wx_fz, mkW_v, mkW_o, mkW_t, opt_some, asI_int, evV_0, evV_s, evL_0, evL_s, setO_f, setO_T, setO_l, frz_nil, frz_cons, List.getElem?_cons_zero, List.getElem?_cons_succ, List.set_cons_zero, List.set_cons_succ, ownL_0, ownL_s, ownD_0, ownD_s, setO_d, pairUp_nil, pairUp_cons, dPuts_nil, setOs_nil, setOs_cons, bindAll_nil, bindAll_cons, bindT_nm, bindT_tp, bindTs_nil, bindTs_cons, wipeE_nil, wipeE_cons, Option.bind_some, Option.map_some, ends, cl_args, List.map_cons, List.map_nil, List.cons_append, List.nil_append, rep_0, rep_s, truD_bl, Bool.not_not, if_true_eq, if_false_eq, isStr, if_true, if_false, Bool.false_eq_true, eq_self]
      refine ⟨_, ?_, dn ++ [z], by rw [e]; simp, rfl⟩
      rw [pw_snoc, List.map_append, List.map_map]
      (apply LeI.le; repeat (first | exact LeI.nil | apply LeI.s | apply LeI.n | apply LeI.r))
  · rintro r ⟨dn, e, rfl⟩
    have e' : dn = M := by simpa using e.symm
    subst e'
    simp only [ut2_all_parts_of, wp_con, wp_loc, wp_bin, wp_neg, wp_not, wp_and, wp_or, wp_ite, wp_cmp, wp_chain, wp_tup, wp_lst, wp_call, wp_bi, wp_isi, wp_sub, wp_sli, wp_rev, wp_lc, wp_dct, wp_dc, wp_me, wp_glo, wps_nil, wps_cons, wpos_nil, wpos_cons, wpts_nil, wpts_cons, wpo_none, wpo_some, wxs_nil, wxs_cons, wx_set, wx_par, wx_tgt, wx_aug, wx_app, wx_ext, wx_sti, wx_dput, wx_exp, wx_ret, wx_ife, wx_for, wx_brk, wx_cnt, wx_pas, wx_fz, mkW_v, mkW_o, mkW_t, opt_some, asI_int, evV_0, evV_s, evL_0, evL_s, setO_f, setO_T, setO_l, frz_nil, frz_cons, List.getElem?_cons_zero, List.getElem?_cons_succ, List.set_cons_zero, List.set_cons_succ, ownL_0, ownL_s, ownD_0, ownD_s, setO_d, pairUp_nil, pairUp_cons, dPuts_nil, setOs_nil, setOs_cons, bindAll_nil, bindAll_cons, bindT_nm, bindT_tp, bindTs_nil, bindTs_cons, wipeE_nil, wipeE_cons, Option.bind_some, Option.map_some, ends, cl_args, List.map_cons, List.map_nil, List.cons_append, List.nil_append, rep_0, rep_s, truD_bl, Bool.not_not, if_true_eq, if_false_eq, isStr, if_true, if_false, Bool.false_eq_true, eq_self, itL]
    refine wlc_map en2 (fun p hp K' hK' => ?_) ?_
    · simp only [wlT, e2_all_parts_of, wp_con, wp_loc, wp_bin, wp_neg, wp_not, wp_and, wp_or, wp_ite, wp_cmp, wp_chain, wp_tup, wp_lst, wp_call, wp_bi, wp_isi, wp_sub, wp_sli, wp_rev, wp_lc, wp_dct, wp_dc, wp_me, wp_glo, wps_nil, wps_cons, wpos_nil, wpos_cons, wpts_nil, wpts_cons, wpo_none, wpo_some, wxs_nil, wxs_cons, wx_set, wx_par, wx_tgt, wx_aug, wx_app, wx_ext, wx_sti, wx_dput, wx_exp, wx_ret, wx_ife, wx_for, wx_brk, wx_cnt, wx_pas, wx_fz, mkW_v, mkW_o, mkW_t, opt_some, asI_int, evV_0, evV_s, evL_0, evL_s, setO_f, setO_T, setO_l, frz_nil, frz_cons, List.getElem?_cons_zero, List.getElem?_cons_succ, List.set_cons_zero, List.set_cons_succ, ownL_0, ownL_s, ownD_0, ownD_s, setO_d, pairUp_nil, pairUp_cons, dPuts_nil, setOs_nil, setOs_cons, bindAll_nil, bindAll_cons, bindT_nm, bindT_tp, bindTs_nil, bindTs_cons, wipeE_nil, wipeE_cons, Option.bind_some, Option.map_some, ends, cl_args, List.map_cons, List.map_nil, List.cons_append, List.nil_append, rep_0, rep_s, truD_bl, Bool.not_not, if_true_eq, if_false_eq, isStr, if_true, if_false, Bool.false_eq_true, eq_self, len_P]
      exact hK'
    · simp only [wp_con, wp_loc, wp_bin, wp_neg, wp_not, wp_and, wp_or, wp_ite, wp_cmp, wp_chain, wp_tup, wp_lst, wp_call, wp_bi, wp_isi, wp_sub, wp_sli, wp_rev, wp_lc, wp_dct, wp_dc, wp_me, wp_glo, wps_nil, wps_cons, wpos_nil, wpos_cons, wpts_nil, wpts_cons, wpo_none, wpo_some, wxs_nil, wxs_cons, wx_set, wx_par, wx_tgt, wx_aug, wx_app, wx_ext, wx_sti, wx_dput, wx_exp, wx_ret, wx_ife, wx_for, wx_brk, wx_cnt, wx_pas, wx_fz, mkW_v, mkW_o, mkW_t, opt_some, asI_int, evV_0, evV_s, evL_0, evL_s, setO_f, setO_T, setO_l, frz_nil, frz_cons, List.getElem?_cons_zero, List.getElem?_cons_succ, List.set_cons_zero, List.set_cons_succ, ownL_0, ownL_s, ownD_0, ownD_s, setO_d, pairUp_nil, pairUp_cons, dPuts_nil, setOs_nil, setOs_cons, bindAll_nil, bindAll_cons, bindT_nm, bindT_tp, bindTs_nil, bindTs_cons, wipeE_nil, wipeE_cons, Option.bind_some, Option.map_some, ends, cl_args, List.map_cons, List.map_nil, List.cons_append, List.nil_append, rep_0, rep_s, truD_bl, Bool.not_not, if_true_eq, if_false_eq, isStr, if_true, if_false, Bool.false_eq_true, eq_self, sorted_lst (sortable_tc En_2 _ fun a _ => isTupC_2 a), itL]
      refine wlc_map enP (fun p hp K' hK' => ?_) hk
      simp only [wlT, e3_all_parts_of, wp_con, wp_loc, wp_bin, wp_neg, wp_not, wp_and, wp_or, wp_ite, wp_cmp, wp_chain, wp_tup, wp_lst, wp_call, wp_bi, wp_isi, wp_sub, wp_sli, wp_rev, wp_lc, wp_dct, wp_dc, wp_me, wp_glo, wps_nil, wps_cons, wpos_nil, wpos_cons, wpts_nil, wpts_cons, wpo_none, wpo_some, wxs_nil, wxs_cons, wx_set, wx_par, wx_tgt, wx_aug, wx_app, wx_ext, wx_sti, wx_dput, wx_exp, wx_ret, wx_ife, wx_for, wx_brk, wx_cnt, wx_pas, wx_fz, mkW_v, mkW_o, mkW_t, opt_some, asI_int, evV_0, evV_s, evL_0, evL_s, setO_f, setO_T, setO_l, frz_nil, frz_cons, List.getElem?_cons_zero, List.getElem?_cons_succ, List.set_cons_zero, List.set_cons_succ, ownL_0, ownL_s, ownD_0, ownD_s, setO_d, pairUp_nil, pairUp_cons, dPuts_nil, setOs_nil, setOs_cons, bindAll_nil, bindAll_cons, bindT_nm, bindT_tp, bindTs_nil, bindTs_cons, wipeE_nil, wipeE_cons, Option.bind_some, Option.map_some, ends, cl_args, List.map_cons, List.map_nil, List.cons_append, List.nil_append, rep_0, rep_s, truD_bl, Bool.not_not, if_true_eq, if_false_eq, isStr, if_true, if_false, Bool.false_eq_true, eq_self, en2]
      exact hK'
theorem c_law_parts (hN : NO N) (hM : M.Sublist N) (hk : K (.lst ((ap M).map enP))) : Cl (G wn (k + 1)) 13 [enP M] K := by
  have sz : szL = 16777216 := rfl
  have m5 := sub_len hN hM
  have es : biD .sorted [enP M] = some (.lst (M.map .str)) := by
    unfold enP
    rw [sorted_tup (sortable_at En_str M fun _ => rfl), srt_sub hN hM]
  refine cl_def rfl rfl rfl ?_
  simp only [u__law_parts, ut1__law_parts, wp_con, wp_loc, wp_bin, wp_neg, wp_not, wp_and, wp_or, wp_ite, wp_cmp, wp_chain, wp_tup, wp_lst, wp_call, wp_bi, wp_isi, wp_sub, wp_sli, wp_rev, wp_lc, wp_dct, wp_dc, wp_me, wp_glo, wps_nil, wps_cons, wpos_nil, wpos_cons, wpts_nil, wpts_cons, wpo_none, wpo_some, wxs_nil, wxs_cons, wx_set, wx_par, wx_tgt, wx_aug, wx_app, wx_ext, wx_sti, wx_dput, wx_exp, wx_ret, wx_ife, wx_for, wx_brk, wx_cnt, wx_pas, wx_fz, mkW_v, mkW_o, mkW_t, opt_some, asI_int, evV_0, evV_s, evL_0, evL_s, setO_f, setO_T, setO_l, frz_nil, frz_cons, List.getElem?_cons_zero, List.getElem?_cons_succ, List.set_cons_zero, List.set_cons_succ, ownL_0, ownL_s, ownD_0, ownD_s, setO_d, pairUp_nil, pairUp_cons, dPuts_nil, setOs_nil, setOs_cons, bindAll_nil, bindAll_cons, bindT_nm, bindT_tp, bindTs_nil, bindTs_cons, wipeE_nil, wipeE_cons, Option.bind_some, Option.map_some, ends, cl_args, List.map_cons, List.map_nil, List.cons_append, List.nil_append, rep_0, rep_s, truD_bl, Bool.not_not, if_true_eq, if_false_eq, isStr, if_true, if_false, Bool.false_eq_true, eq_self, es, itL]
  refine for_inv (fun (rest : List Nm) r => ∃ dn, M = dn ++ rest ∧ r = [some (false, enP M), some (false, .lst ((pw dn).map enP)), none, none, none]) ?_ ?_ ?_
  · exact ⟨[], rfl, rfl⟩
  · rintro z rest r ⟨dn, e, rfl⟩
    have dl : dn.length + 1 ≤ 5 := by have := congrArg List.length e; simp at this; omega
    simp only [wfT, b1__law_parts, wp_con, wp_loc, wp_bin, wp_neg, wp_not, wp_and, wp_or, wp_ite, wp_cmp, wp_chain, wp_tup, wp_lst, wp_call, wp_bi, wp_isi, wp_sub, wp_sli, wp_rev, wp_lc, wp_dct, wp_dc, wp_me, wp_glo, wps_nil, wps_cons, wpos_nil, wpos_cons, wpts_nil, wpts_cons, wpo_none, wpo_some, wxs_nil, wxs_cons, wx_set, wx_par, wx_tgt, wx_aug, wx_app, wx_ext, wx_sti, wx_dput, wx_exp, wx_ret, wx_ife, wx_for, wx_brk, wx_cnt, wx_pas, wx_fz, mkW_v, mkW_o, mkW_t, opt_some, asI_int, evV_0, evV_s, evL_0, evL_s, setO_f, setO_T, setO_l, frz_nil, frz_cons, List.getElem?_cons_zero, List.getElem?_cons_succ, List.set_cons_zero, List.set_cons_succ, ownL_0, ownL_s, ownD_0, ownD_s, setO_d, pairUp_nil, pairUp_cons, dPuts_nil, setOs_nil, setOs_cons, bindAll_nil, bindAll_cons, bindT_nm, bindT_tp, bindTs_nil, bindTs_cons, wipeE_nil, wipeE_cons, Option.bind_some, Option.map_some, ends, cl_args, List.map_cons, List.map_nil, List.cons_append, List.nil_append, rep_0, rep_s, truD_bl, Bool.not_not, if_true_eq, if_false_eq, isStr, if_true, if_false, Bool.false_eq_true, eq_self, itL]
    refine wlc_map (fun p => enP (p ++ [z])) (fun p hp K' hK' => ?_) ?_
    · have pl := (mem_pw.mp hp).length_le
      simp only [wlT, e1__law_parts, wp_con, wp_loc, wp_bin, wp_neg, wp_not, wp_and, wp_or, wp_ite, wp_cmp, wp_chain, wp_tup, wp_lst, wp_call, wp_bi, wp_isi, wp_sub, wp_sli, wp_rev, wp_lc, wp_dct, wp_dc, wp_me, wp_glo, wps_nil, wps_cons, wpos_nil, wpos_cons, wpts_nil, wpts_cons, wpo_none, wpo_some, wxs_nil, wxs_cons, wx_set, wx_par, wx_tgt, wx_aug, wx_app, wx_ext, wx_sti, wx_dput, wx_exp, wx_ret, wx_ife, wx_for, wx_brk, wx_cnt, wx_pas, wx_fz, mkW_v, mkW_o, mkW_t, opt_some, asI_int, evV_0, evV_s, evL_0, evL_s, setO_f, setO_T, setO_l, frz_nil, frz_cons, List.getElem?_cons_zero, List.getElem?_cons_succ, List.set_cons_zero, List.set_cons_succ, ownL_0, ownL_s, ownD_0, ownD_s, setO_d, pairUp_nil, pairUp_cons, dPuts_nil, setOs_nil, setOs_cons, bindAll_nil, bindAll_cons, bindT_nm, bindT_tp, bindTs_nil, bindTs_cons, wipeE_nil, wipeE_cons, Option.bind_some, Option.map_some, ends, cl_args, List.map_cons, List.map_nil, List.cons_append, List.nil_append, rep_0, rep_s, truD_bl, Bool.not_not, if_true_eq, if_false_eq, isStr, if_true, if_false, Bool.false_eq_true, eq_self, enP]
      rw [add_tup (by simp; omega)]
      simp only [enP, List.map_append, List.map_cons, List.map_nil] at hK'
      exact hK'
    · have l32 : 2 ^ dn.length ≤ 2 ^ 4 := Nat.pow_le_pow_right (by decide) (by omega)
      rw [add_lst (by simp [pw_len]; omega)]
      simp only [wp_con, wp_loc, wp_bin, wp_neg, wp_not, wp_and, wp_or, wp_ite, wp_cmp, wp_chain, wp_tup, wp_lst, wp_call, wp_bi, wp_isi, wp_sub, wp_sli, wp_rev, wp_lc, wp_dct, wp_dc, wp_me, wp_glo, wps_nil, wps_cons, wpos_nil, wpos_cons, wpts_nil, wpts_cons, wpo_none, wpo_some, wxs_nil, wxs_cons, wx_set, wx_par, wx_tgt, wx_aug, wx_app, wx_ext, wx_sti, wx_dput, wx_exp, wx_ret, wx_ife, wx_for, wx_brk, wx_cnt, wx_pas, wx_fz, mkW_v, mkW_o, mkW_t, opt_some, asI_int, evV_0, evV_s, evL_0, evL_s, setO_f, setO_T, setO_l, frz_nil, frz_cons, List.getElem?_cons_zero, List.getElem?_cons_succ, List.set_cons_zero, List.set_cons_succ, ownL_0, ownL_s, ownD_0, ownD_s, setO_d, pairUp_nil, pairUp_cons, dPuts_nil, setOs_nil, setOs_cons, bindAll_nil, bindAll_cons, bindT_nm, bindT_tp, bindTs_nil, bindTs_cons, wipeE_nil, wipeE_cons, Option.bind_some, Option.map_some, ends, cl_args, List.map_cons, List.map_nil, List.cons_append, List.nil_append, rep_0, rep_s, truD_bl, Bool.not_not, if_true_eq, if_false_eq, isStr, if_true, if_false, Bool.false_eq_true, eq_self]
      refine ⟨_, ?_, dn ++ [z], by rw [e]; simp, rfl⟩
      rw [pw_snoc, List.map_append, List.map_map]
      (apply LeI.le; repeat (first | exact LeI.nil | apply LeI.s | apply LeI.n | apply LeI.r))
  · rintro r ⟨dn, e, rfl⟩
    have e' : dn = M := by simpa using e.symm
    subst e'
    simp only [ut2__law_parts, wp_con, wp_loc, wp_bin, wp_neg, wp_not, wp_and, wp_or, wp_ite, wp_cmp, wp_chain, wp_tup, wp_lst, wp_call, wp_bi, wp_isi, wp_sub, wp_sli, wp_rev, wp_lc, wp_dct, wp_dc, wp_me, wp_glo, wps_nil, wps_cons, wpos_nil, wpos_cons, wpts_nil, wpts_cons, wpo_none, wpo_some, wxs_nil, wxs_cons, wx_set, wx_par, wx_tgt, wx_aug, wx_app, wx_ext, wx_sti, wx_dput, wx_exp, wx_ret, wx_ife, wx_for, wx_brk, wx_cnt, wx_pas, wx_fz, mkW_v, mkW_o, mkW_t, opt_some, asI_int, evV_0, evV_s, evL_0, evL_s, setO_f, setO_T, setO_l, frz_nil, frz_cons, List.getElem?_cons_zero, List.getElem?_cons_succ, List.set_cons_zero, List.set_cons_succ, ownL_0, ownL_s, ownD_0, ownD_s, setO_d, pairUp_nil, pairUp_cons, dPuts_nil, setOs_nil, setOs_cons, bindAll_nil, bindAll_cons, bindT_nm, bindT_tp, bindTs_nil, bindTs_cons, wipeE_nil, wipeE_cons, Option.bind_some, Option.map_some, ends, cl_args, List.map_cons, List.map_nil, List.cons_append, List.nil_append, rep_0, rep_s, truD_bl, Bool.not_not, if_true_eq, if_false_eq, isStr, if_true, if_false, Bool.false_eq_true, eq_self, itL]
    refine wlc_map en2 (fun p hp K' hK' => ?_) ?_
    · simp only [wlT, e2__law_parts, wp_con, wp_loc, wp_bin, wp_neg, wp_not, wp_and, wp_or, wp_ite, wp_cmp, wp_chain, wp_tup, wp_lst, wp_call, wp_bi, wp_isi, wp_sub, wp_sli, wp_rev, wp_lc, wp_dct, wp_dc, wp_me, wp_glo, wps_nil, wps_cons, wpos_nil, wpos_cons, wpts_nil, wpts_cons, wpo_none, wpo_some, wxs_nil, wxs_cons, wx_set, wx_par, wx_tgt, wx_aug, wx_app, wx_ext, wx_sti, wx_dput, wx_exp, wx_ret, wx_ife, wx_for, wx_brk, wx_cnt, wx_pas, wx_fz, mkW_v, mkW_o, mkW_t, opt_some, asI_int, evV_0, evV_s, evL_0, evL_s, setO_f, setO_T, setO_l, frz_nil, frz_cons, List.getElem?_cons_zero, List.getElem?_cons_succ, List.set_cons_zero, List.set_cons_succ, ownL_0, ownL_s, ownD_0, ownD_s, setO_d, pairUp_nil, pairUp_cons, dPuts_nil, setOs_nil, setOs_cons, bindAll_nil, bindAll_cons, bindT_nm, bindT_tp, bindTs_nil, bindTs_cons, wipeE_nil, wipeE_cons, Option.bind_some, Option.map_some, ends, cl_args, List.map_cons, List.map_nil, List.cons_append, List.nil_append, rep_0, rep_s, truD_bl, Bool.not_not, if_true_eq, if_false_eq, isStr, if_true, if_false, Bool.false_eq_true, eq_self, len_P]
      exact hK'
    · simp only [wp_con, wp_loc, wp_bin, wp_neg, wp_not, wp_and, wp_or, wp_ite, wp_cmp, wp_chain, wp_tup, wp_lst, wp_call, wp_bi, wp_isi, wp_sub, wp_sli, wp_rev, wp_lc, wp_dct, wp_dc, wp_me, wp_glo, wps_nil, wps_cons, wpos_nil, wpos_cons, wpts_nil, wpts_cons, wpo_none, wpo_some, wxs_nil, wxs_cons, wx_set, wx_par, wx_tgt, wx_aug, wx_app, wx_ext, wx_sti, wx_dput, wx_exp, wx_ret, wx_ife, wx_for, wx_brk, wx_cnt, wx_pas, wx_fz, mkW_v, mkW_o, mkW_t, opt_some, asI_int, evV_0, evV_s, evL_0, evL_s, setO_f, setO_T, setO_l, frz_nil, frz_cons, List.getElem?_cons_zero, List.getElem?_cons_succ, List.set_cons_zero, List.set_cons_succ, ownL_0, ownL_s, ownD_0, ownD_s, setO_d, pairUp_nil, pairUp_cons, dPuts_nil, setOs_nil, setOs_cons, bindAll_nil, bindAll_cons, bindT_nm, bindT_tp, bindTs_nil, bindTs_cons, wipeE_nil, wipeE_cons, Option.bind_some, Option.map_some, ends, cl_args, List.map_cons, List.map_nil, List.cons_append, List.nil_append, rep_0, rep_s, truD_bl, Bool.not_not, if_true_eq, if_false_eq, isStr, if_true, if_false, Bool.false_eq_true, eq_self, sorted_lst (sortable_tc En_2 _ fun a _ => isTupC_2 a), itL]
      refine wlc_map enP (fun p hp K' hK' => ?_) hk
      have e1 : subD (en2 p) (.int 1) = some (enP p) := sub_tup (i := 1) rfl
      simp only [wlT, e3__law_parts, wp_con, wp_loc, wp_bin, wp_neg, wp_not, wp_and, wp_or, wp_ite, wp_cmp, wp_chain, wp_tup, wp_lst, wp_call, wp_bi, wp_isi, wp_sub, wp_sli, wp_rev, wp_lc, wp_dct, wp_dc, wp_me, wp_glo, wps_nil, wps_cons, wpos_nil, wpos_cons, wpts_nil, wpts_cons, wpo_none, wpo_some, wxs_nil, wxs_cons, wx_set, wx_par, wx_tgt, wx_aug, wx_app, wx_ext, wx_sti, wx_dput, wx_exp, wx_ret, wx_ife, wx_for, wx_brk, wx_cnt, wx_pas, wx_fz, mkW_v, mkW_o, mkW_t, opt_some, asI_int, evV_0, evV_s, evL_0, evL_s, setO_f, setO_T, setO_l, frz_nil, frz_cons, List.getElem?_cons_zero, List.getElem?_cons_succ, List.set_cons_zero, List.set_cons_succ, ownL_0, ownL_s, ownD_0, ownD_s, setO_d, pairUp_nil, pairUp_cons, dPuts_nil, setOs_nil, setOs_cons, bindAll_nil, bindAll_cons, bindT_nm, bindT_tp, bindTs_nil, bindTs_cons, wipeE_nil, wipeE_cons, Option.bind_some, Option.map_some, ends, cl_args, List.map_cons, List.map_nil, List.cons_append, List.nil_append, rep_0, rep_s, truD_bl, Bool.not_not, if_true_eq, if_false_eq, isStr, if_true, if_false, Bool.false_eq_true, eq_self, e1]
      exact hK'
end
end Law

/-! Pk56b: least tellers, kept rules, what is told by parts. -/
namespace Law
open Ip
section
variable {wn k : Nat} {K : D → Prop} {R : List Rl} {X N P M : List Nm} {c : Nm} {parts : List (List Nm)}
theorem ne_str {a b : Nm} : cmpD .ne (.str a) (.str b) = some (!decide (a = b)) := En_str.cne a b
def oth (P : List Nm) (c : Nm) : List Nm := P.filter fun x => !decide (x = c)
theorem oth_sub : (oth P c).Sublist P := List.filter_sublist ..
theorem mem_oth {x : Nm} : x ∈ oth P c ↔ x ∈ P ∧ x ≠ c := by unfold oth; rw [List.mem_filter]; simp
theorem pairwise_mid {α : Type} {r : α → α → Prop} {l1 l2 : List α} {z : α} (h : (l1 ++ z :: l2).Pairwise r) : ∀ x ∈ l2, r z x := (List.pairwise_cons.mp (List.pairwise_append.mp h).2.1).1
theorem c_least_tellers (hw : 10 ≤ wn) (hN : NO N) (hR : RO N R) (hP : P.Sublist N) (hc : c ∈ N) (hk : ∀ T : List (List Nm), KQ N [(P, c)] R (T.map fun t => (t, c)) → T.length ≤ 32 → K (.tup (T.map enP))) : Cl (G wn (k + 3)) 3 [enP P, enR R, .str c] K := by
  have sz : szL = 16777216 := rfl
  have sM : (oth P c).Sublist N := oth_sub.trans hP
  have m5 := sub_len hN sM
  refine cl_def rfl rfl rfl ?_
  simp only [u_least_tellers, ut1_least_tellers, wp_con, wp_loc, wp_bin, wp_neg, wp_not, wp_and, wp_or, wp_ite, wp_cmp, wp_chain, wp_tup, wp_lst, wp_call, wp_bi, wp_isi, wp_sub, wp_sli, wp_rev, wp_lc, wp_dct, wp_dc, wp_me, wp_glo, wps_nil, wps_cons, wpos_nil, wpos_cons, wpts_nil, wpts_cons, wpo_none, wpo_some, wxs_nil, wxs_cons, wx_set, wx_par, wx_tgt, wx_aug, wx_app, wx_ext, wx_sti, wx_dput, wx_exp, wx_ret, wx_ife, wx_for, wx_brk, wx_cnt, wx_pas, wx_fz, mkW_v, mkW_o, mkW_t, opt_some, asI_int, evV_0, evV_s, evL_0, evL_s, setO_f, setO_T, setO_l, frz_nil, frz_cons, List.getElem?_cons_zero, List.getElem?_cons_succ, List.set_cons_zero, List.set_cons_succ, ownL_0, ownL_s, ownD_0, ownD_s, setO_d, pairUp_nil, pairUp_cons, dPuts_nil, setOs_nil, setOs_cons, bindAll_nil, bindAll_cons, bindT_nm, bindT_tp, bindTs_nil, bindTs_cons, wipeE_nil, wipeE_cons, Option.bind_some, Option.map_some, ends, cl_args, List.map_cons, List.map_nil, List.cons_append, List.nil_append, rep_0, rep_s, truD_bl, Bool.not_not, if_true_eq, if_false_eq, isStr, if_true, if_false, Bool.false_eq_true, eq_self, it_P]
  refine wlc_filter (fun x => !decide (x = c)) D.str (fun x hx K' hK' => ?_) ?_
  · simp only [wlT, q1_least_tellers, e1_least_tellers, wp_con, wp_loc, wp_bin, wp_neg, wp_not, wp_and, wp_or, wp_ite, wp_cmp, wp_chain, wp_tup, wp_lst, wp_call, wp_bi, wp_isi, wp_sub, wp_sli, wp_rev, wp_lc, wp_dct, wp_dc, wp_me, wp_glo, wps_nil, wps_cons, wpos_nil, wpos_cons, wpts_nil, wpts_cons, wpo_none, wpo_some, wxs_nil, wxs_cons, wx_set, wx_par, wx_tgt, wx_aug, wx_app, wx_ext, wx_sti, wx_dput, wx_exp, wx_ret, wx_ife, wx_for, wx_brk, wx_cnt, wx_pas, wx_fz, mkW_v, mkW_o, mkW_t, opt_some, asI_int, evV_0, evV_s, evL_0, evL_s, setO_f, setO_T, setO_l, frz_nil, frz_cons, List.getElem?_cons_zero, List.getElem?_cons_succ, List.set_cons_zero, List.set_cons_succ, ownL_0, ownL_s, ownD_0, ownD_s, setO_d, pairUp_nil, pairUp_cons, dPuts_nil, setOs_nil, setOs_cons, bindAll_nil, bindAll_cons, bindT_nm, bindT_tp, bindTs_nil, bindTs_cons, wipeE_nil, wipeE_cons, Option.bind_some, Option.map_some, ends, cl_args, List.map_cons, List.map_nil, List.cons_append, List.nil_append, rep_0, rep_s, truD_bl, Bool.not_not, if_true_eq, if_false_eq, isStr, if_true, if_false, Bool.false_eq_true, eq_self, ne_str]
    cases hb : (!decide (x = c)) with
    | true =>
      rw [hb] at hK'
      try simp only [wp_con, wp_loc, wp_bin, wp_neg, wp_not, wp_and, wp_or, wp_ite, wp_cmp, wp_chain, wp_tup, wp_lst, wp_call, wp_bi, wp_isi, wp_sub, wp_sli, wp_rev, wp_lc, wp_dct, wp_dc, wp_me, wp_glo, wps_nil, wps_cons, wpos_nil, wpos_cons, wpts_nil, wpts_cons, wpo_none, wpo_some, wxs_nil, wxs_cons, wx_set, wx_par, wx_tgt, wx_aug, wx_app, wx_ext, wx_sti, wx_dput, wx_exp, wx_ret, wx_ife, wx_for, wx_brk, wx_cnt, wx_pas, wx_fz, mkW_v, mkW_o, mkW_t, opt_some, asI_int, evV_0, evV_s, evL_0, evL_s, setO_f, setO_T, setO_l, frz_nil, frz_cons, List.getElem?_cons_zero, List.getElem?_cons_succ, List.set_cons_zero, List.set_cons_succ, ownL_0, ownL_s, ownD_0, ownD_s, setO_d, pairUp_nil, pairUp_cons, dPuts_nil, setOs_nil, setOs_cons, bindAll_nil, bindAll_cons, bindT_nm, bindT_tp, bindTs_nil, bindTs_cons, wipeE_nil, wipeE_cons, Option.bind_some, Option.map_some, ends, cl_args, List.map_cons, List.map_nil, List.cons_append, List.nil_append, rep_0, rep_s, truD_bl, Bool.not_not, if_true_eq, if_false_eq, isStr, if_true, if_false, Bool.false_eq_true, eq_self]
      exact hK'
    | false =>
      rw [hb] at hK'
      try simp only [wp_con, wp_loc, wp_bin, wp_neg, wp_not, wp_and, wp_or, wp_ite, wp_cmp, wp_chain, wp_tup, wp_lst, wp_call, wp_bi, wp_isi, wp_sub, wp_sli, wp_rev, wp_lc, wp_dct, wp_dc, wp_me, wp_glo, wps_nil, wps_cons, wpos_nil, wpos_cons, wpts_nil, wpts_cons, wpo_none, wpo_some, wxs_nil, wxs_cons, wx_set, wx_par, wx_tgt, wx_aug, wx_app, wx_ext, wx_sti, wx_dput, wx_exp, wx_ret, wx_ife, wx_for, wx_brk, wx_cnt, wx_pas, wx_fz, mkW_v, mkW_o, mkW_t, opt_some, asI_int, evV_0, evV_s, evL_0, evL_s, setO_f, setO_T, setO_l, frz_nil, frz_cons, List.getElem?_cons_zero, List.getElem?_cons_succ, List.set_cons_zero, List.set_cons_succ, ownL_0, ownL_s, ownD_0, ownD_s, setO_d, pairUp_nil, pairUp_cons, dPuts_nil, setOs_nil, setOs_cons, bindAll_nil, bindAll_cons, bindT_nm, bindT_tp, bindTs_nil, bindTs_cons, wipeE_nil, wipeE_cons, Option.bind_some, Option.map_some, ends, cl_args, List.map_cons, List.map_nil, List.cons_append, List.nil_append, rep_0, rep_s, truD_bl, Bool.not_not, if_true_eq, if_false_eq, isStr, if_true, if_false, Bool.false_eq_true, eq_self]
      exact hK'
  · refine c_all_parts (M := oth P c) hN sM ?_
    simp only [wp_con, wp_loc, wp_bin, wp_neg, wp_not, wp_and, wp_or, wp_ite, wp_cmp, wp_chain, wp_tup, wp_lst, wp_call, wp_bi, wp_isi, wp_sub, wp_sli, wp_rev, wp_lc, wp_dct, wp_dc, wp_me, wp_glo, wps_nil, wps_cons, wpos_nil, wpos_cons, wpts_nil, wpts_cons, wpo_none, wpo_some, wxs_nil, wxs_cons, wx_set, wx_par, wx_tgt, wx_aug, wx_app, wx_ext, wx_sti, wx_dput, wx_exp, wx_ret, wx_ife, wx_for, wx_brk, wx_cnt, wx_pas, wx_fz, mkW_v, mkW_o, mkW_t, opt_some, asI_int, evV_0, evV_s, evL_0, evL_s, setO_f, setO_T, setO_l, frz_nil, frz_cons, List.getElem?_cons_zero, List.getElem?_cons_succ, List.set_cons_zero, List.set_cons_succ, ownL_0, ownL_s, ownD_0, ownD_s, setO_d, pairUp_nil, pairUp_cons, dPuts_nil, setOs_nil, setOs_cons, bindAll_nil, bindAll_cons, bindT_nm, bindT_tp, bindTs_nil, bindTs_cons, wipeE_nil, wipeE_cons, Option.bind_some, Option.map_some, ends, cl_args, List.map_cons, List.map_nil, List.cons_append, List.nil_append, rep_0, rep_s, truD_bl, Bool.not_not, if_true_eq, if_false_eq, isStr, if_true, if_false, Bool.false_eq_true, eq_self, itL]
    refine for_inv (fun (rest : List (List Nm)) r => ∃ dn, ∃ T : List (List Nm), ap (oth P c) = dn ++ rest ∧ r = [some (false, enP P), some (false, enR R), some (false, .str c), some (true, .lst (T.map enP)), none, none, none] ∧ (∀ t ∈ T, t ∈ dn ∧ told R t c) ∧ (∀ Y ∈ dn, told R Y c → ∃ t ∈ T, t ⊆ Y) ∧ (∀ t ∈ T, ∀ Y ∈ ap (oth P c), Y ⊆ t → told R Y c → t ⊆ Y) ∧ T.length ≤ dn.length ∧ T.Nodup) ?_ ?_ ?_
    · exact ⟨[], [], rfl, rfl, fun _ h => (List.not_mem_nil h).elim, fun _ h => (List.not_mem_nil h).elim, fun _ h => (List.not_mem_nil h).elim, Nat.le_refl _, .nil⟩
    · rintro z rest r ⟨dn, T, e, rfl, h1, h2, h3, h4, h5⟩
      have hz : z ∈ ap (oth P c) := by rw [e]; simp
      have sz' := mem_ap.mp hz
      have ll := ap_len m5
      have el := congrArg List.length e
      rw [List.length_append, List.length_cons] at el
      have lat := pairwise_mid (e ▸ ap_key)
      have nod := sub_nodup hN (sz'.trans sM)
      simp only [wfT, b1_least_tellers, wp_con, wp_loc, wp_bin, wp_neg, wp_not, wp_and, wp_or, wp_ite, wp_cmp, wp_chain, wp_tup, wp_lst, wp_call, wp_bi, wp_isi, wp_sub, wp_sli, wp_rev, wp_lc, wp_dct, wp_dc, wp_me, wp_glo, wps_nil, wps_cons, wpos_nil, wpos_cons, wpts_nil, wpts_cons, wpo_none, wpo_some, wxs_nil, wxs_cons, wx_set, wx_par, wx_tgt, wx_aug, wx_app, wx_ext, wx_sti, wx_dput, wx_exp, wx_ret, wx_ife, wx_for, wx_brk, wx_cnt, wx_pas, wx_fz, mkW_v, mkW_o, mkW_t, opt_some, asI_int, evV_0, evV_s, evL_0, evL_s, setO_f, setO_T, setO_l, frz_nil, frz_cons, List.getElem?_cons_zero, List.getElem?_cons_succ, List.set_cons_zero, List.set_cons_succ, ownL_0, ownL_s, ownD_0, ownD_s, setO_d, pairUp_nil, pairUp_cons, dPuts_nil, setOs_nil, setOs_cons, bindAll_nil, bindAll_cons, bindT_nm, bindT_tp, bindTs_nil, bindTs_cons, wipeE_nil, wipeE_cons, Option.bind_some, Option.map_some, ends, cl_args, List.map_cons, List.map_nil, List.cons_append, List.nil_append, rep_0, rep_s, truD_bl, Bool.not_not, if_true_eq, if_false_eq, isStr, if_true, if_false, Bool.false_eq_true, eq_self, itL]
      refine wlc_any (fun t => t.all fun x => decide (x ∈ z)) (fun t ht K' hK' => ?_) ?_
      · simp only [wlT, e3_least_tellers, wp_con, wp_loc, wp_bin, wp_neg, wp_not, wp_and, wp_or, wp_ite, wp_cmp, wp_chain, wp_tup, wp_lst, wp_call, wp_bi, wp_isi, wp_sub, wp_sli, wp_rev, wp_lc, wp_dct, wp_dc, wp_me, wp_glo, wps_nil, wps_cons, wpos_nil, wpos_cons, wpts_nil, wpts_cons, wpo_none, wpo_some, wxs_nil, wxs_cons, wx_set, wx_par, wx_tgt, wx_aug, wx_app, wx_ext, wx_sti, wx_dput, wx_exp, wx_ret, wx_ife, wx_for, wx_brk, wx_cnt, wx_pas, wx_fz, mkW_v, mkW_o, mkW_t, opt_some, asI_int, evV_0, evV_s, evL_0, evL_s, setO_f, setO_T, setO_l, frz_nil, frz_cons, List.getElem?_cons_zero, List.getElem?_cons_succ, List.set_cons_zero, List.set_cons_succ, ownL_0, ownL_s, ownD_0, ownD_s, setO_d, pairUp_nil, pairUp_cons, dPuts_nil, setOs_nil, setOs_cons, bindAll_nil, bindAll_cons, bindT_nm, bindT_tp, bindTs_nil, bindTs_cons, wipeE_nil, wipeE_cons, Option.bind_some, Option.map_some, ends, cl_args, List.map_cons, List.map_nil, List.cons_append, List.nil_append, rep_0, rep_s, truD_bl, Bool.not_not, if_true_eq, if_false_eq, isStr, if_true, if_false, Bool.false_eq_true, eq_self, it_P]
        refine wlc_all (fun x => decide (x ∈ z)) (fun x hx K' hK' => ?_) ?_
        · simp only [wlT, e2_least_tellers, wp_con, wp_loc, wp_bin, wp_neg, wp_not, wp_and, wp_or, wp_ite, wp_cmp, wp_chain, wp_tup, wp_lst, wp_call, wp_bi, wp_isi, wp_sub, wp_sli, wp_rev, wp_lc, wp_dct, wp_dc, wp_me, wp_glo, wps_nil, wps_cons, wpos_nil, wpos_cons, wpts_nil, wpts_cons, wpo_none, wpo_some, wxs_nil, wxs_cons, wx_set, wx_par, wx_tgt, wx_aug, wx_app, wx_ext, wx_sti, wx_dput, wx_exp, wx_ret, wx_ife, wx_for, wx_brk, wx_cnt, wx_pas, wx_fz, mkW_v, mkW_o, mkW_t, opt_some, asI_int, evV_0, evV_s, evL_0, evL_s, setO_f, setO_T, setO_l, frz_nil, frz_cons, List.getElem?_cons_zero, List.getElem?_cons_succ, List.set_cons_zero, List.set_cons_succ, ownL_0, ownL_s, ownD_0, ownD_s, setO_d, pairUp_nil, pairUp_cons, dPuts_nil, setOs_nil, setOs_cons, bindAll_nil, bindAll_cons, bindT_nm, bindT_tp, bindTs_nil, bindTs_cons, wipeE_nil, wipeE_cons, Option.bind_some, Option.map_some, ends, cl_args, List.map_cons, List.map_nil, List.cons_append, List.nil_append, rep_0, rep_s, truD_bl, Bool.not_not, if_true_eq, if_false_eq, isStr, if_true, if_false, Bool.false_eq_true, eq_self, in_P]
          exact hK'
        · try simp only [wp_con, wp_loc, wp_bin, wp_neg, wp_not, wp_and, wp_or, wp_ite, wp_cmp, wp_chain, wp_tup, wp_lst, wp_call, wp_bi, wp_isi, wp_sub, wp_sli, wp_rev, wp_lc, wp_dct, wp_dc, wp_me, wp_glo, wps_nil, wps_cons, wpos_nil, wpos_cons, wpts_nil, wpts_cons, wpo_none, wpo_some, wxs_nil, wxs_cons, wx_set, wx_par, wx_tgt, wx_aug, wx_app, wx_ext, wx_sti, wx_dput, wx_exp, wx_ret, wx_ife, wx_for, wx_brk, wx_cnt, wx_pas, wx_fz, mkW_v, mkW_o, mkW_t, opt_some, asI_int, evV_0, evV_s, evL_0, evL_s, setO_f, setO_T, setO_l, frz_nil, frz_cons, List.getElem?_cons_zero, List.getElem?_cons_succ, List.set_cons_zero, List.set_cons_succ, ownL_0, ownL_s, ownD_0, ownD_s, setO_d, pairUp_nil, pairUp_cons, dPuts_nil, setOs_nil, setOs_cons, bindAll_nil, bindAll_cons, bindT_nm, bindT_tp, bindTs_nil, bindTs_cons, wipeE_nil, wipeE_cons, Option.bind_some, Option.map_some, ends, cl_args, List.map_cons, List.map_nil, List.cons_append, List.nil_append, rep_0, rep_s, truD_bl, Bool.not_not, if_true_eq, if_false_eq, isStr, if_true, if_false, Bool.false_eq_true, eq_self]
          exact hK'
      · try simp only [wp_con, wp_loc, wp_bin, wp_neg, wp_not, wp_and, wp_or, wp_ite, wp_cmp, wp_chain, wp_tup, wp_lst, wp_call, wp_bi, wp_isi, wp_sub, wp_sli, wp_rev, wp_lc, wp_dct, wp_dc, wp_me, wp_glo, wps_nil, wps_cons, wpos_nil, wpos_cons, wpts_nil, wpts_cons, wpo_none, wpo_some, wxs_nil, wxs_cons, wx_set, wx_par, wx_tgt, wx_aug, wx_app, wx_ext, wx_sti, wx_dput, wx_exp, wx_ret, wx_ife, wx_for, wx_brk, wx_cnt, wx_pas, wx_fz, mkW_v, mkW_o, mkW_t, opt_some, asI_int, evV_0, evV_s, evL_0, evL_s, setO_f, setO_T, setO_l, frz_nil, frz_cons, List.getElem?_cons_zero, List.getElem?_cons_succ, List.set_cons_zero, List.set_cons_succ, ownL_0, ownL_s, ownD_0, ownD_s, setO_d, pairUp_nil, pairUp_cons, dPuts_nil, setOs_nil, setOs_cons, bindAll_nil, bindAll_cons, bindT_nm, bindT_tp, bindTs_nil, bindTs_cons, wipeE_nil, wipeE_cons, Option.bind_some, Option.map_some, ends, cl_args, List.map_cons, List.map_nil, List.cons_append, List.nil_append, rep_0, rep_s, truD_bl, Bool.not_not, if_true_eq, if_false_eq, isStr, if_true, if_false, Bool.false_eq_true, eq_self]
        have skip : (told R z c → ∃ t ∈ T, t ⊆ z) → ∀ r, LeE [some (false, enP P), some (false, enR R), some (false, .str c), some (true, .lst (T.map enP)), none, none, none] r → up (fun r => ∃ dn, ∃ T : List (List Nm), ap (oth P c) = dn ++ rest ∧ r = [some (false, enP P), some (false, enR R), some (false, .str c), some (true, .lst (T.map enP)), none, none, none] ∧ (∀ t ∈ T, t ∈ dn ∧ told R t c) ∧ (∀ Y ∈ dn, told R Y c → ∃ t ∈ T, t ⊆ Y) ∧ (∀ t ∈ T, ∀ Y ∈ ap (oth P c), Y ⊆ t → told R Y c → t ⊆ Y) ∧ T.length ≤ dn.length ∧ T.Nodup) r := fun hs r hr => by
          refine ⟨_, hr, dn ++ [z], T, by rw [e]; simp, rfl, fun t ht => ⟨List.mem_append.mpr (.inl (h1 t ht).1), (h1 t ht).2⟩, fun Y hY t => ?_, h3, by simp; omega, h5⟩
          rcases List.mem_append.mp hY with hY | hY
          · exact h2 Y hY t
          · rw [List.mem_singleton.mp hY] at t ⊢
            exact hs t
        cases hb : (T.any fun t => t.all fun x => decide (x ∈ z)) with
        | true =>
          simp only [Bool.not_true, wp_con, wp_loc, wp_bin, wp_neg, wp_not, wp_and, wp_or, wp_ite, wp_cmp, wp_chain, wp_tup, wp_lst, wp_call, wp_bi, wp_isi, wp_sub, wp_sli, wp_rev, wp_lc, wp_dct, wp_dc, wp_me, wp_glo, wps_nil, wps_cons, wpos_nil, wpos_cons, wpts_nil, wpts_cons, wpo_none, wpo_some, wxs_nil, wxs_cons, wx_set, wx_par, wx_tgt, wx_aug, wx_app, wx_ext, wx_sti, wx_dput, wx_exp, wx_ret, wx_ife, wx_for, wx_brk, wx_cnt, wx_pas, wx_fz, mkW_v, mkW_o, mkW_t, opt_some, asI_int, evV_0, evV_s, evL_0, evL_s, setO_f, setO_T, setO_l, frz_nil, frz_cons, List.getElem?_cons_zero, List.getElem?_cons_succ, List.set_cons_zero, List.set_cons_succ, ownL_0, ownL_s, ownD_0, ownD_s, setO_d, pairUp_nil, pairUp_cons, dPuts_nil, setOs_nil, setOs_cons, bindAll_nil, bindAll_cons, bindT_nm, bindT_tp, bindTs_nil, bindTs_cons, wipeE_nil, wipeE_cons, Option.bind_some, Option.map_some, ends, cl_args, List.map_cons, List.map_nil, List.cons_append, List.nil_append, rep_0, rep_s, truD_bl, Bool.not_not, if_true_eq, if_false_eq, isStr, if_true, if_false, Bool.false_eq_true, eq_self]
          refine skip (fun _ => ?_) _ (by (apply LeI.le; repeat (first | exact LeI.nil | apply LeI.s | apply LeI.n | apply LeI.r)))
          rw [List.any_eq_true] at hb
          obtain ⟨t, ht, hb⟩ := hb
          exact ⟨t, ht, fun x hx => by simpa using List.all_eq_true.mp hb x hx⟩
        | false =>
          have hb' : ∀ t ∈ T, ¬ t ⊆ z := fun t ht hs => by
            rw [List.any_eq_false] at hb
            refine hb t ht (List.all_eq_true.mpr fun x hx => by simpa using hs hx)
          simp only [Bool.not_false, wp_con, wp_loc, wp_bin, wp_neg, wp_not, wp_and, wp_or, wp_ite, wp_cmp, wp_chain, wp_tup, wp_lst, wp_call, wp_bi, wp_isi, wp_sub, wp_sli, wp_rev, wp_lc, wp_dct, wp_dc, wp_me, wp_glo, wps_nil, wps_cons, wpos_nil, wpos_cons, wpts_nil, wpts_cons, wpo_none, wpo_some, wxs_nil, wxs_cons, wx_set, wx_par, wx_tgt, wx_aug, wx_app, wx_ext, wx_sti, wx_dput, wx_exp, wx_ret, wx_ife, wx_for, wx_brk, wx_cnt, wx_pas, wx_fz, mkW_v, mkW_o, mkW_t, opt_some, asI_int, evV_0, evV_s, evL_0, evL_s, setO_f, setO_T, setO_l, frz_nil, frz_cons, List.getElem?_cons_zero, List.getElem?_cons_succ, List.set_cons_zero, List.set_cons_succ, ownL_0, ownL_s, ownD_0, ownD_s, setO_d, pairUp_nil, pairUp_cons, dPuts_nil, setOs_nil, setOs_cons, bindAll_nil, bindAll_cons, bindT_nm, bindT_tp, bindTs_nil, bindTs_cons, wipeE_nil, wipeE_cons, Option.bind_some, Option.map_some, ends, cl_args, List.map_cons, List.map_nil, List.cons_append, List.nil_append, rep_0, rep_s, truD_bl, Bool.not_not, if_true_eq, if_false_eq, isStr, if_true, if_false, Bool.false_eq_true, eq_self]
          refine c_does_tell hw hN hR (sz'.trans sM) hc ?_
          try simp only [wp_con, wp_loc, wp_bin, wp_neg, wp_not, wp_and, wp_or, wp_ite, wp_cmp, wp_chain, wp_tup, wp_lst, wp_call, wp_bi, wp_isi, wp_sub, wp_sli, wp_rev, wp_lc, wp_dct, wp_dc, wp_me, wp_glo, wps_nil, wps_cons, wpos_nil, wpos_cons, wpts_nil, wpts_cons, wpo_none, wpo_some, wxs_nil, wxs_cons, wx_set, wx_par, wx_tgt, wx_aug, wx_app, wx_ext, wx_sti, wx_dput, wx_exp, wx_ret, wx_ife, wx_for, wx_brk, wx_cnt, wx_pas, wx_fz, mkW_v, mkW_o, mkW_t, opt_some, asI_int, evV_0, evV_s, evL_0, evL_s, setO_f, setO_T, setO_l, frz_nil, frz_cons, List.getElem?_cons_zero, List.getElem?_cons_succ, List.set_cons_zero, List.set_cons_succ, ownL_0, ownL_s, ownD_0, ownD_s, setO_d, pairUp_nil, pairUp_cons, dPuts_nil, setOs_nil, setOs_cons, bindAll_nil, bindAll_cons, bindT_nm, bindT_tp, bindTs_nil, bindTs_cons, wipeE_nil, wipeE_cons, Option.bind_some, Option.map_some, ends, cl_args, List.map_cons, List.map_nil, List.cons_append, List.nil_append, rep_0, rep_s, truD_bl, Bool.not_not, if_true_eq, if_false_eq, isStr, if_true, if_false, Bool.false_eq_true, eq_self]
          cases ht : tl R z c with
          | false =>
            try simp only [wp_con, wp_loc, wp_bin, wp_neg, wp_not, wp_and, wp_or, wp_ite, wp_cmp, wp_chain, wp_tup, wp_lst, wp_call, wp_bi, wp_isi, wp_sub, wp_sli, wp_rev, wp_lc, wp_dct, wp_dc, wp_me, wp_glo, wps_nil, wps_cons, wpos_nil, wpos_cons, wpts_nil, wpts_cons, wpo_none, wpo_some, wxs_nil, wxs_cons, wx_set, wx_par, wx_tgt, wx_aug, wx_app, wx_ext, wx_sti, wx_dput, wx_exp, wx_ret, wx_ife, wx_for, wx_brk, wx_cnt, wx_pas, wx_fz, mkW_v, mkW_o, mkW_t, opt_some, asI_int, evV_0, evV_s, evL_0, evL_s, setO_f, setO_T, setO_l, frz_nil, frz_cons, List.getElem?_cons_zero, List.getElem?_cons_succ, List.set_cons_zero, List.set_cons_succ, ownL_0, ownL_s, ownD_0, ownD_s, setO_d, pairUp_nil, pairUp_cons, dPuts_nil, setOs_nil, setOs_cons, bindAll_nil, bindAll_cons, bindT_nm, bindT_tp, bindTs_nil, bindTs_cons, wipeE_nil, wipeE_cons, Option.bind_some, Option.map_some, ends, cl_args, List.map_cons, List.map_nil, List.cons_append, List.nil_append, rep_0, rep_s, truD_bl, Bool.not_not, if_true_eq, if_false_eq, isStr, if_true, if_false, Bool.false_eq_true, eq_self]
            refine skip (fun t => ?_) _ (by (apply LeI.le; repeat (first | exact LeI.nil | apply LeI.s | apply LeI.n | apply LeI.r)))
            rw [tl_iff.mpr t] at ht
            cases ht
          | true =>
            have hz2 := tl_iff.mp ht
            try simp only [wp_con, wp_loc, wp_bin, wp_neg, wp_not, wp_and, wp_or, wp_ite, wp_cmp, wp_chain, wp_tup, wp_lst, wp_call, wp_bi, wp_isi, wp_sub, wp_sli, wp_rev, wp_lc, wp_dct, wp_dc, wp_me, wp_glo, wps_nil, wps_cons, wpos_nil, wpos_cons, wpts_nil, wpts_cons, wpo_none, wpo_some, wxs_nil, wxs_cons, wx_set, wx_par, wx_tgt, wx_aug, wx_app, wx_ext, wx_sti, wx_dput, wx_exp, wx_ret, wx_ife, wx_for, wx_brk, wx_cnt, wx_pas, wx_fz, mkW_v, mkW_o, mkW_t, opt_some, asI_int, evV_0, evV_s, evL_0, evL_s, setO_f, setO_T, setO_l, frz_nil, frz_cons, List.getElem?_cons_zero, List.getElem?_cons_succ, List.set_cons_zero, List.set_cons_succ, ownL_0, ownL_s, ownD_0, ownD_s, setO_d, pairUp_nil, pairUp_cons, dPuts_nil, setOs_nil, setOs_cons, bindAll_nil, bindAll_cons, bindT_nm, bindT_tp, bindTs_nil, bindTs_cons, wipeE_nil, wipeE_cons, Option.bind_some, Option.map_some, ends, cl_args, List.map_cons, List.map_nil, List.cons_append, List.nil_append, rep_0, rep_s, truD_bl, Bool.not_not, if_true_eq, if_false_eq, isStr, if_true, if_false, Bool.false_eq_true, eq_self]
            refine ⟨by rw [List.length_map]; omega, _, ?_, dn ++ [z], T ++ [z], by rw [e]; simp, rfl, fun t ht => ?_, fun Y hY t => ?_, fun t ht Y hY hs tY => ?_, by simp; omega, ?_⟩
            · rw [List.map_append]
              (apply LeI.le; repeat (first | exact LeI.nil | apply LeI.s | apply LeI.n | apply LeI.r))
            · rcases List.mem_append.mp ht with ht | ht
              · exact ⟨List.mem_append.mpr (.inl (h1 t ht).1), (h1 t ht).2⟩
              · rw [List.mem_singleton.mp ht]
                exact ⟨by simp, hz2⟩
            · rcases List.mem_append.mp hY with hY | hY
              · obtain ⟨u, hu, hs⟩ := h2 Y hY t
                exact ⟨u, List.mem_append.mpr (.inl hu), hs⟩
              · rw [List.mem_singleton.mp hY]
                exact ⟨z, by simp, fun _ h => h⟩
            · rcases List.mem_append.mp ht with ht | ht
              · exact h3 t ht Y hY hs tY
              · rw [List.mem_singleton.mp ht] at hs ⊢
                have hY' := hY
                rw [e] at hY
                rcases List.mem_append.mp hY with hY | hY
                · obtain ⟨u, hu, hs2⟩ := h2 Y hY tY
                  exact absurd (fun x hx => hs (hs2 hx)) (hb' u hu)
                · rcases List.mem_cons.mp hY with rfl | hY
                  · exact fun _ h => h
                  · exact sub_of_len (sub_nodup hN ((mem_ap.mp hY').trans sM)) hs (lat Y hY)
            · refine List.nodup_append.mpr ⟨h5, by simp, fun x hx y hy => ?_⟩
              rw [List.mem_singleton.mp hy]
              exact fun q => hb' x hx (by rw [q]; exact fun _ h => h)
    · rintro r ⟨dn, T, e, rfl, h1, h2, h3, h4, h5⟩
      have e' : ap (oth P c) = dn := by simpa using e
      have so : sortable (T.map enP) = true := by
        by_cases hn : [] ∈ T
        · refine sortable_1 En_P T ?_ fun _ => rfl
          have : T ⊆ [[]] := fun t ht => by
            have := h3 t ht [] (mem_ap.mpr (List.nil_sublist _)) (fun _ h => (List.not_mem_nil h).elim) (h1 [] hn).2
            cases t with
            | nil => simp
            | cons a t => exact absurd (this List.mem_cons_self) (by simp)
          exact len_sub h5 this
        · refine sortable_tc En_P T fun t ht => ?_
          cases t with
          | nil => exact absurd ht hn
          | cons a t => rfl
      have kq : KQ N [(P, c)] R (T.map fun t => (t, c)) := by
        refine ⟨fun r hr => ?_, fun q hq Y hY hn t => ?_, fun r hr Y hY t => ?_⟩
        · obtain ⟨t, ht, rfl⟩ := List.mem_map.mp hr
          have hs : t.Sublist (oth P c) := mem_ap.mp (e' ▸ (h1 t ht).1)
          exact ⟨(P, c), by simp, rfl, hs.trans sM, fun x hx => (mem_oth.mp (hs.subset hx)).1, fun hx => (mem_oth.mp (hs.subset hx)).2 rfl, (h1 t ht).2⟩
        · rw [List.mem_singleton.mp hq] at hY hn t ⊢
          have hin : res (oth P c) Y ∈ dn := e' ▸ mem_ap.mpr res_sub
          have e2 : Y ⊆ res (oth P c) Y := fun x hx => mem_res.mpr ⟨mem_oth.mpr ⟨hY hx, fun q => hn (by dsimp only; rw [← q]; exact hx)⟩, hx⟩
          obtain ⟨u, hu, hs⟩ := h2 _ hin (told_mono e2 t)
          exact ⟨(u, c), List.mem_map.mpr ⟨u, hu, rfl⟩, rfl, fun x hx => (mem_res.mp (hs hx)).2⟩
        · obtain ⟨u, hu, rfl⟩ := List.mem_map.mp hr
          have hs : u.Sublist (oth P c) := mem_ap.mp (e' ▸ (h1 u hu).1)
          have e2 : Y ⊆ res (oth P c) Y := fun x hx => mem_res.mpr ⟨hs.subset (hY hx), hx⟩
          have := h3 u hu (res (oth P c) Y) (mem_ap.mpr res_sub) (fun x hx => hY (mem_res.mp hx).2) (told_mono e2 t)
          exact fun x hx => (mem_res.mp (this hx)).2
      simp only [ut2_least_tellers, wp_con, wp_loc, wp_bin, wp_neg, wp_not, wp_and, wp_or, wp_ite, wp_cmp, wp_chain, wp_tup, wp_lst, wp_call, wp_bi, wp_isi, wp_sub, wp_sli, wp_rev, wp_lc, wp_dct, wp_dc, wp_me, wp_glo, wps_nil, wps_cons, wpos_nil, wpos_cons, wpts_nil, wpts_cons, wpo_none, wpo_some, wxs_nil, wxs_cons, wx_set, wx_par, wx_tgt, wx_aug, wx_app, wx_ext, wx_sti, wx_dput, wx_exp, wx_ret, wx_ife, wx_for, wx_brk, wx_cnt, wx_pas, wx_fz, mkW_v, mkW_o, mkW_t, opt_some, asI_int, evV_0, evV_s, evL_0, evL_s, setO_f, setO_T, setO_l, frz_nil, frz_cons, List.getElem?_cons_zero, List.getElem?_cons_succ, List.set_cons_zero, List.set_cons_succ, ownL_0, ownL_s, ownD_0, ownD_s, setO_d, pairUp_nil, pairUp_cons, dPuts_nil, setOs_nil, setOs_cons, bindAll_nil, bindAll_cons, bindT_nm, bindT_tp, bindTs_nil, bindTs_cons, wipeE_nil, wipeE_cons, Option.bind_some, Option.map_some, ends, cl_args, List.map_cons, List.map_nil, List.cons_append, List.nil_append, rep_0, rep_s, truD_bl, Bool.not_not, if_true_eq, if_false_eq, isStr, if_true, if_false, Bool.false_eq_true, eq_self, sorted_lst so]
      refine hk (srt enP T) (kq.perm fun r => ?_) ?_
      · rw [List.mem_map, List.mem_map]
        constructor
        · rintro ⟨t, ht, q⟩
          exact ⟨t, mem_srt.mp ht, q⟩
        · rintro ⟨t, ht, q⟩
          exact ⟨t, mem_srt.mpr ht, q⟩
      · rw [srt_len]
        have := ap_len m5
        rw [e'] at this
        omega
theorem isTupC_r (r : Rl) : isTupC (enr r) = true := id rfl
theorem c_kept (hw : 10 ≤ wn) (hN : NO N) (hR : RO N R) (hP : P.Sublist N) (hk : ∀ T : List Rl, KQ N (P.map fun c => (P, c)) R T → T.length ≤ 200 → K (enR T)) : Cl (G wn (k + 4)) 4 [enP P, enR R] K := by
  have sz : szL = 16777216 := rfl
  have p5 := sub_len hN hP
  refine cl_def rfl rfl rfl ?_
  simp only [u_kept_rules, ut1_kept_rules, wp_con, wp_loc, wp_bin, wp_neg, wp_not, wp_and, wp_or, wp_ite, wp_cmp, wp_chain, wp_tup, wp_lst, wp_call, wp_bi, wp_isi, wp_sub, wp_sli, wp_rev, wp_lc, wp_dct, wp_dc, wp_me, wp_glo, wps_nil, wps_cons, wpos_nil, wpos_cons, wpts_nil, wpts_cons, wpo_none, wpo_some, wxs_nil, wxs_cons, wx_set, wx_par, wx_tgt, wx_aug, wx_app, wx_ext, wx_sti, wx_dput, wx_exp, wx_ret, wx_ife, wx_for, wx_brk, wx_cnt, wx_pas, wx_fz, mkW_v, mkW_o, mkW_t, opt_some, asI_int, evV_0, evV_s, evL_0, evL_s, setO_f, setO_T, setO_l, frz_nil, frz_cons, List.getElem?_cons_zero, List.getElem?_cons_succ, List.set_cons_zero, List.set_cons_succ, ownL_0, ownL_s, ownD_0, ownD_s, setO_d, pairUp_nil, pairUp_cons, dPuts_nil, setOs_nil, setOs_cons, bindAll_nil, bindAll_cons, bindT_nm, bindT_tp, bindTs_nil, bindTs_cons, wipeE_nil, wipeE_cons, Option.bind_some, Option.map_some, ends, cl_args, List.map_cons, List.map_nil, List.cons_append, List.nil_append, rep_0, rep_s, truD_bl, Bool.not_not, if_true_eq, if_false_eq, isStr, if_true, if_false, Bool.false_eq_true, eq_self, it_P]
  refine for_inv (fun (rest : List Nm) r => ∃ dn, ∃ T : List Rl, P = dn ++ rest ∧ r = [some (false, enP P), some (false, enR R), some (true, .lst (T.map enr)), none, none] ∧ KQ N (dn.map fun c => (P, c)) R T ∧ T.length ≤ dn.length * 32) ?_ ?_ ?_
  · exact ⟨[], [], rfl, rfl, .nil, Nat.zero_le _⟩
  · rintro z rest r ⟨dn, T, e, rfl, h1, h2⟩
    have el := congrArg List.length e
    rw [List.length_append, List.length_cons] at el
    have hz : z ∈ N := hP.subset (by rw [e]; simp)
    simp only [wfT, b1_kept_rules, wp_con, wp_loc, wp_bin, wp_neg, wp_not, wp_and, wp_or, wp_ite, wp_cmp, wp_chain, wp_tup, wp_lst, wp_call, wp_bi, wp_isi, wp_sub, wp_sli, wp_rev, wp_lc, wp_dct, wp_dc, wp_me, wp_glo, wps_nil, wps_cons, wpos_nil, wpos_cons, wpts_nil, wpts_cons, wpo_none, wpo_some, wxs_nil, wxs_cons, wx_set, wx_par, wx_tgt, wx_aug, wx_app, wx_ext, wx_sti, wx_dput, wx_exp, wx_ret, wx_ife, wx_for, wx_brk, wx_cnt, wx_pas, wx_fz, mkW_v, mkW_o, mkW_t, opt_some, asI_int, evV_0, evV_s, evL_0, evL_s, setO_f, setO_T, setO_l, frz_nil, frz_cons, List.getElem?_cons_zero, List.getElem?_cons_succ, List.set_cons_zero, List.set_cons_succ, ownL_0, ownL_s, ownD_0, ownD_s, setO_d, pairUp_nil, pairUp_cons, dPuts_nil, setOs_nil, setOs_cons, bindAll_nil, bindAll_cons, bindT_nm, bindT_tp, bindTs_nil, bindTs_cons, wipeE_nil, wipeE_cons, Option.bind_some, Option.map_some, ends, cl_args, List.map_cons, List.map_nil, List.cons_append, List.nil_append, rep_0, rep_s, truD_bl, Bool.not_not, if_true_eq, if_false_eq, isStr, if_true, if_false, Bool.false_eq_true, eq_self]
    refine c_least_tellers hw hN hR hP hz fun T' k1 k2 => ?_
    simp only [itT]
    refine wlc_map (fun t => enr (t, z)) (fun t ht K' hK' => ?_) ?_
    · simp only [wlT, e1_kept_rules, wp_con, wp_loc, wp_bin, wp_neg, wp_not, wp_and, wp_or, wp_ite, wp_cmp, wp_chain, wp_tup, wp_lst, wp_call, wp_bi, wp_isi, wp_sub, wp_sli, wp_rev, wp_lc, wp_dct, wp_dc, wp_me, wp_glo, wps_nil, wps_cons, wpos_nil, wpos_cons, wpts_nil, wpts_cons, wpo_none, wpo_some, wxs_nil, wxs_cons, wx_set, wx_par, wx_tgt, wx_aug, wx_app, wx_ext, wx_sti, wx_dput, wx_exp, wx_ret, wx_ife, wx_for, wx_brk, wx_cnt, wx_pas, wx_fz, mkW_v, mkW_o, mkW_t, opt_some, asI_int, evV_0, evV_s, evL_0, evL_s, setO_f, setO_T, setO_l, frz_nil, frz_cons, List.getElem?_cons_zero, List.getElem?_cons_succ, List.set_cons_zero, List.set_cons_succ, ownL_0, ownL_s, ownD_0, ownD_s, setO_d, pairUp_nil, pairUp_cons, dPuts_nil, setOs_nil, setOs_cons, bindAll_nil, bindAll_cons, bindT_nm, bindT_tp, bindTs_nil, bindTs_cons, wipeE_nil, wipeE_cons, Option.bind_some, Option.map_some, ends, cl_args, List.map_cons, List.map_nil, List.cons_append, List.nil_append, rep_0, rep_s, truD_bl, Bool.not_not, if_true_eq, if_false_eq, isStr, if_true, if_false, Bool.false_eq_true, eq_self]
      exact hK'
    · simp only [wp_con, wp_loc, wp_bin, wp_neg, wp_not, wp_and, wp_or, wp_ite, wp_cmp, wp_chain, wp_tup, wp_lst, wp_call, wp_bi, wp_isi, wp_sub, wp_sli, wp_rev, wp_lc, wp_dct, wp_dc, wp_me, wp_glo, wps_nil, wps_cons, wpos_nil, wpos_cons, wpts_nil, wpts_cons, wpo_none, wpo_some, wxs_nil, wxs_cons, wx_set, wx_par, wx_tgt, wx_aug, wx_app, wx_ext, wx_sti, wx_dput, wx_exp, wx_ret, wx_ife, wx_for, wx_brk, wx_cnt, wx_pas, wx_fz, mkW_v, mkW_o, mkW_t, opt_some, asI_int, evV_0, evV_s, evL_0, evL_s, setO_f, setO_T, setO_l, frz_nil, frz_cons, List.getElem?_cons_zero, List.getElem?_cons_succ, List.set_cons_zero, List.set_cons_succ, ownL_0, ownL_s, ownD_0, ownD_s, setO_d, pairUp_nil, pairUp_cons, dPuts_nil, setOs_nil, setOs_cons, bindAll_nil, bindAll_cons, bindT_nm, bindT_tp, bindTs_nil, bindTs_cons, wipeE_nil, wipeE_cons, Option.bind_some, Option.map_some, ends, cl_args, List.map_cons, List.map_nil, List.cons_append, List.nil_append, rep_0, rep_s, truD_bl, Bool.not_not, if_true_eq, if_false_eq, isStr, if_true, if_false, Bool.false_eq_true, eq_self, seqD_lst]
      refine ⟨by simp; omega, _, ?_, dn ++ [z], T ++ T'.map (fun t => (t, z)), by rw [e]; simp, rfl, ?_, ?_⟩
      · rw [List.map_append, List.map_map]
        (apply LeI.le; repeat (first | exact LeI.nil | apply LeI.s | apply LeI.n | apply LeI.r))
      · rw [List.map_append]
        exact h1.append k1
      · simp
        omega
  · rintro r ⟨dn, T, e, rfl, h1, h2⟩
    have e' : dn = P := by simpa using e.symm
    subst e'
    simp only [ut2_kept_rules, wp_con, wp_loc, wp_bin, wp_neg, wp_not, wp_and, wp_or, wp_ite, wp_cmp, wp_chain, wp_tup, wp_lst, wp_call, wp_bi, wp_isi, wp_sub, wp_sli, wp_rev, wp_lc, wp_dct, wp_dc, wp_me, wp_glo, wps_nil, wps_cons, wpos_nil, wpos_cons, wpts_nil, wpts_cons, wpo_none, wpo_some, wxs_nil, wxs_cons, wx_set, wx_par, wx_tgt, wx_aug, wx_app, wx_ext, wx_sti, wx_dput, wx_exp, wx_ret, wx_ife, wx_for, wx_brk, wx_cnt, wx_pas, wx_fz, mkW_v, mkW_o, mkW_t, opt_some, asI_int, evV_0, evV_s, evL_0, evL_s, setO_f, setO_T, setO_l, frz_nil, frz_cons, List.getElem?_cons_zero, List.getElem?_cons_succ, List.set_cons_zero, List.set_cons_succ, ownL_0, ownL_s, ownD_0, ownD_s, setO_d, pairUp_nil, pairUp_cons, dPuts_nil, setOs_nil, setOs_cons, bindAll_nil, bindAll_cons, bindT_nm, bindT_tp, bindTs_nil, bindTs_cons, wipeE_nil, wipeE_cons, Option.bind_some, Option.map_some, ends, cl_args, List.map_cons, List.map_nil, List.cons_append, List.nil_append, rep_0, rep_s, truD_bl, Bool.not_not, if_true_eq, if_false_eq, isStr, if_true, if_false, Bool.false_eq_true, eq_self, sorted_lst (sortable_tc En_r T fun a _ => isTupC_r a)]
    refine hk (srt enr T) (h1.perm fun r => mem_srt) ?_
    rw [srt_len]
    omega
theorem c_same_rules {A B : List Rl} (hw : 10 ≤ wn) (hN : NO N) (hA : RO N A) (hB : RO N B) (hk : K (.bl ((B.all fun r => tl A r.1 r.2) && A.all fun r => tl B r.1 r.2))) : Cl (G wn (k + 3)) 5 [enR A, enR B] K := by
  refine cl_def rfl rfl rfl ?_
  simp only [u_same_rules, wp_con, wp_loc, wp_bin, wp_neg, wp_not, wp_and, wp_or, wp_ite, wp_cmp, wp_chain, wp_tup, wp_lst, wp_call, wp_bi, wp_isi, wp_sub, wp_sli, wp_rev, wp_lc, wp_dct, wp_dc, wp_me, wp_glo, wps_nil, wps_cons, wpos_nil, wpos_cons, wpts_nil, wpts_cons, wpo_none, wpo_some, wxs_nil, wxs_cons, wx_set, wx_par, wx_tgt, wx_aug, wx_app, wx_ext, wx_sti, wx_dput, wx_exp, wx_ret, wx_ife, wx_for, wx_brk, wx_cnt, wx_pas, wx_fz, mkW_v, mkW_o, mkW_t, opt_some, asI_int, evV_0, evV_s, evL_0, evL_s, setO_f, setO_T, setO_l, frz_nil, frz_cons, List.getElem?_cons_zero, List.getElem?_cons_succ, List.set_cons_zero, List.set_cons_succ, ownL_0, ownL_s, ownD_0, ownD_s, setO_d, pairUp_nil, pairUp_cons, dPuts_nil, setOs_nil, setOs_cons, bindAll_nil, bindAll_cons, bindT_nm, bindT_tp, bindTs_nil, bindTs_cons, wipeE_nil, wipeE_cons, Option.bind_some, Option.map_some, ends, cl_args, List.map_cons, List.map_nil, List.cons_append, List.nil_append, rep_0, rep_s, truD_bl, Bool.not_not, if_true_eq, if_false_eq, isStr, if_true, if_false, Bool.false_eq_true, eq_self, it_R]
  refine wlc_all (fun r => tl A r.1 r.2) (fun r hr K' hK' => ?_) ?_
  · simp only [wlT, e1_same_rules, enr, wp_con, wp_loc, wp_bin, wp_neg, wp_not, wp_and, wp_or, wp_ite, wp_cmp, wp_chain, wp_tup, wp_lst, wp_call, wp_bi, wp_isi, wp_sub, wp_sli, wp_rev, wp_lc, wp_dct, wp_dc, wp_me, wp_glo, wps_nil, wps_cons, wpos_nil, wpos_cons, wpts_nil, wpts_cons, wpo_none, wpo_some, wxs_nil, wxs_cons, wx_set, wx_par, wx_tgt, wx_aug, wx_app, wx_ext, wx_sti, wx_dput, wx_exp, wx_ret, wx_ife, wx_for, wx_brk, wx_cnt, wx_pas, wx_fz, mkW_v, mkW_o, mkW_t, opt_some, asI_int, evV_0, evV_s, evL_0, evL_s, setO_f, setO_T, setO_l, frz_nil, frz_cons, List.getElem?_cons_zero, List.getElem?_cons_succ, List.set_cons_zero, List.set_cons_succ, ownL_0, ownL_s, ownD_0, ownD_s, setO_d, pairUp_nil, pairUp_cons, dPuts_nil, setOs_nil, setOs_cons, bindAll_nil, bindAll_cons, bindT_nm, bindT_tp, bindTs_nil, bindTs_cons, wipeE_nil, wipeE_cons, Option.bind_some, Option.map_some, ends, cl_args, List.map_cons, List.map_nil, List.cons_append, List.nil_append, rep_0, rep_s, truD_bl, Bool.not_not, if_true_eq, if_false_eq, isStr, if_true, if_false, Bool.false_eq_true, eq_self]
    exact c_does_tell hw hN hA (hB r hr).1 (hB r hr).2 hK'
  · try simp only [wp_con, wp_loc, wp_bin, wp_neg, wp_not, wp_and, wp_or, wp_ite, wp_cmp, wp_chain, wp_tup, wp_lst, wp_call, wp_bi, wp_isi, wp_sub, wp_sli, wp_rev, wp_lc, wp_dct, wp_dc, wp_me, wp_glo, wps_nil, wps_cons, wpos_nil, wpos_cons, wpts_nil, wpts_cons, wpo_none, wpo_some, wxs_nil, wxs_cons, wx_set, wx_par, wx_tgt, wx_aug, wx_app, wx_ext, wx_sti, wx_dput, wx_exp, wx_ret, wx_ife, wx_for, wx_brk, wx_cnt, wx_pas, wx_fz, mkW_v, mkW_o, mkW_t, opt_some, asI_int, evV_0, evV_s, evL_0, evL_s, setO_f, setO_T, setO_l, frz_nil, frz_cons, List.getElem?_cons_zero, List.getElem?_cons_succ, List.set_cons_zero, List.set_cons_succ, ownL_0, ownL_s, ownD_0, ownD_s, setO_d, pairUp_nil, pairUp_cons, dPuts_nil, setOs_nil, setOs_cons, bindAll_nil, bindAll_cons, bindT_nm, bindT_tp, bindTs_nil, bindTs_cons, wipeE_nil, wipeE_cons, Option.bind_some, Option.map_some, ends, cl_args, List.map_cons, List.map_nil, List.cons_append, List.nil_append, rep_0, rep_s, truD_bl, Bool.not_not, if_true_eq, if_false_eq, isStr, if_true, if_false, Bool.false_eq_true, eq_self]
    cases hb : (B.all fun r => tl A r.1 r.2) with
    | false =>
      rw [hb] at hk
      simp only [Bool.not_false, wp_con, wp_loc, wp_bin, wp_neg, wp_not, wp_and, wp_or, wp_ite, wp_cmp, wp_chain, wp_tup, wp_lst, wp_call, wp_bi, wp_isi, wp_sub, wp_sli, wp_rev, wp_lc, wp_dct, wp_dc, wp_me, wp_glo, wps_nil, wps_cons, wpos_nil, wpos_cons, wpts_nil, wpts_cons, wpo_none, wpo_some, wxs_nil, wxs_cons, wx_set, wx_par, wx_tgt, wx_aug, wx_app, wx_ext, wx_sti, wx_dput, wx_exp, wx_ret, wx_ife, wx_for, wx_brk, wx_cnt, wx_pas, wx_fz, mkW_v, mkW_o, mkW_t, opt_some, asI_int, evV_0, evV_s, evL_0, evL_s, setO_f, setO_T, setO_l, frz_nil, frz_cons, List.getElem?_cons_zero, List.getElem?_cons_succ, List.set_cons_zero, List.set_cons_succ, ownL_0, ownL_s, ownD_0, ownD_s, setO_d, pairUp_nil, pairUp_cons, dPuts_nil, setOs_nil, setOs_cons, bindAll_nil, bindAll_cons, bindT_nm, bindT_tp, bindTs_nil, bindTs_cons, wipeE_nil, wipeE_cons, Option.bind_some, Option.map_some, ends, cl_args, List.map_cons, List.map_nil, List.cons_append, List.nil_append, rep_0, rep_s, truD_bl, Bool.not_not, if_true_eq, if_false_eq, isStr, if_true, if_false, Bool.false_eq_true, eq_self]
      exact hk
    | true =>
      rw [hb, Bool.true_and] at hk
      simp only [Bool.not_true, wp_con, wp_loc, wp_bin, wp_neg, wp_not, wp_and, wp_or, wp_ite, wp_cmp, wp_chain, wp_tup, wp_lst, wp_call, wp_bi, wp_isi, wp_sub, wp_sli, wp_rev, wp_lc, wp_dct, wp_dc, wp_me, wp_glo, wps_nil, wps_cons, wpos_nil, wpos_cons, wpts_nil, wpts_cons, wpo_none, wpo_some, wxs_nil, wxs_cons, wx_set, wx_par, wx_tgt, wx_aug, wx_app, wx_ext, wx_sti, wx_dput, wx_exp, wx_ret, wx_ife, wx_for, wx_brk, wx_cnt, wx_pas, wx_fz, mkW_v, mkW_o, mkW_t, opt_some, asI_int, evV_0, evV_s, evL_0, evL_s, setO_f, setO_T, setO_l, frz_nil, frz_cons, List.getElem?_cons_zero, List.getElem?_cons_succ, List.set_cons_zero, List.set_cons_succ, ownL_0, ownL_s, ownD_0, ownD_s, setO_d, pairUp_nil, pairUp_cons, dPuts_nil, setOs_nil, setOs_cons, bindAll_nil, bindAll_cons, bindT_nm, bindT_tp, bindTs_nil, bindTs_cons, wipeE_nil, wipeE_cons, Option.bind_some, Option.map_some, ends, cl_args, List.map_cons, List.map_nil, List.cons_append, List.nil_append, rep_0, rep_s, truD_bl, Bool.not_not, if_true_eq, if_false_eq, isStr, if_true, if_false, Bool.false_eq_true, eq_self, ut1_same_rules, it_R]
      refine wlc_all (fun r => tl B r.1 r.2) (fun r hr K' hK' => ?_) ?_
      · simp only [wlT, e2_same_rules, enr, wp_con, wp_loc, wp_bin, wp_neg, wp_not, wp_and, wp_or, wp_ite, wp_cmp, wp_chain, wp_tup, wp_lst, wp_call, wp_bi, wp_isi, wp_sub, wp_sli, wp_rev, wp_lc, wp_dct, wp_dc, wp_me, wp_glo, wps_nil, wps_cons, wpos_nil, wpos_cons, wpts_nil, wpts_cons, wpo_none, wpo_some, wxs_nil, wxs_cons, wx_set, wx_par, wx_tgt, wx_aug, wx_app, wx_ext, wx_sti, wx_dput, wx_exp, wx_ret, wx_ife, wx_for, wx_brk, wx_cnt, wx_pas, wx_fz, mkW_v, mkW_o, mkW_t, opt_some, asI_int, evV_0, evV_s, evL_0, evL_s, setO_f, setO_T, setO_l, frz_nil, frz_cons, List.getElem?_cons_zero, List.getElem?_cons_succ, List.set_cons_zero, List.set_cons_succ, ownL_0, ownL_s, ownD_0, ownD_s, setO_d, pairUp_nil, pairUp_cons, dPuts_nil, setOs_nil, setOs_cons, bindAll_nil, bindAll_cons, bindT_nm, bindT_tp, bindTs_nil, bindTs_cons, wipeE_nil, wipeE_cons, Option.bind_some, Option.map_some, ends, cl_args, List.map_cons, List.map_nil, List.cons_append, List.nil_append, rep_0, rep_s, truD_bl, Bool.not_not, if_true_eq, if_false_eq, isStr, if_true, if_false, Bool.false_eq_true, eq_self]
        exact c_does_tell hw hN hB (hA r hr).1 (hA r hr).2 hK'
      · try simp only [wp_con, wp_loc, wp_bin, wp_neg, wp_not, wp_and, wp_or, wp_ite, wp_cmp, wp_chain, wp_tup, wp_lst, wp_call, wp_bi, wp_isi, wp_sub, wp_sli, wp_rev, wp_lc, wp_dct, wp_dc, wp_me, wp_glo, wps_nil, wps_cons, wpos_nil, wpos_cons, wpts_nil, wpts_cons, wpo_none, wpo_some, wxs_nil, wxs_cons, wx_set, wx_par, wx_tgt, wx_aug, wx_app, wx_ext, wx_sti, wx_dput, wx_exp, wx_ret, wx_ife, wx_for, wx_brk, wx_cnt, wx_pas, wx_fz, mkW_v, mkW_o, mkW_t, opt_some, asI_int, evV_0, evV_s, evL_0, evL_s, setO_f, setO_T, setO_l, frz_nil, frz_cons, List.getElem?_cons_zero, List.getElem?_cons_succ, List.set_cons_zero, List.set_cons_succ, ownL_0, ownL_s, ownD_0, ownD_s, setO_d, pairUp_nil, pairUp_cons, dPuts_nil, setOs_nil, setOs_cons, bindAll_nil, bindAll_cons, bindT_nm, bindT_tp, bindTs_nil, bindTs_cons, wipeE_nil, wipeE_cons, Option.bind_some, Option.map_some, ends, cl_args, List.map_cons, List.map_nil, List.cons_append, List.nil_append, rep_0, rep_s, truD_bl, Bool.not_not, if_true_eq, if_false_eq, isStr, if_true, if_false, Bool.false_eq_true, eq_self]
        exact hk
/-! ### told by parts -/
theorem eq_P {a b : List Nm} : cmpD .eq (enP a) (enP b) = some (decide (a = b)) := En_P.ceq a b
theorem filter_filter' {p q : Nm → Bool} : (N.filter p).filter q = N.filter fun c => p c && q c := by
  rw [List.filter_filter]
  apply List.filter_congr
  intro x _
  exact Bool.and_comm ..
theorem c_told_by_parts (hw : 10 ≤ wn) (hN : NO N) (hR : RO N R) (hp : ∀ P ∈ parts, P.Sublist N) (hX : X.Sublist N) (hk : K (enP (N.filter (ptl parts R X)))) : Cl (G wn (k + 2)) 6 [.tup (parts.map enP), enR R, enP X] K := by
  have sz : szL = 16777216 := rfl
  have x5 := sub_len hN hX
  have n5 := hN.l5
  have es : biD .sorted [enP X] = some (.lst (X.map .str)) := by
    unfold enP
    rw [sorted_tup (sortable_at En_str X fun _ => rfl), srt_sub hN hX]
  refine cl_def rfl rfl rfl ?_
  simp only [u_told_by_parts, wp_con, wp_loc, wp_bin, wp_neg, wp_not, wp_and, wp_or, wp_ite, wp_cmp, wp_chain, wp_tup, wp_lst, wp_call, wp_bi, wp_isi, wp_sub, wp_sli, wp_rev, wp_lc, wp_dct, wp_dc, wp_me, wp_glo, wps_nil, wps_cons, wpos_nil, wpos_cons, wpts_nil, wpts_cons, wpo_none, wpo_some, wxs_nil, wxs_cons, wx_set, wx_par, wx_tgt, wx_aug, wx_app, wx_ext, wx_sti, wx_dput, wx_exp, wx_ret, wx_ife, wx_for, wx_brk, wx_cnt, wx_pas, wx_fz, mkW_v, mkW_o, mkW_t, opt_some, asI_int, evV_0, evV_s, evL_0, evL_s, setO_f, setO_T, setO_l, frz_nil, frz_cons, List.getElem?_cons_zero, List.getElem?_cons_succ, List.set_cons_zero, List.set_cons_succ, ownL_0, ownL_s, ownD_0, ownD_s, setO_d, pairUp_nil, pairUp_cons, dPuts_nil, setOs_nil, setOs_cons, bindAll_nil, bindAll_cons, bindT_nm, bindT_tp, bindTs_nil, bindTs_cons, wipeE_nil, wipeE_cons, Option.bind_some, Option.map_some, ends, cl_args, List.map_cons, List.map_nil, List.cons_append, List.nil_append, rep_0, rep_s, truD_bl, Bool.not_not, if_true_eq, if_false_eq, isStr, if_true, if_false, Bool.false_eq_true, eq_self, es, tuple_P, ut1_told_by_parts]
  rw [wx_whl]
  refine while_inv (fun m r => ∃ Z, r = [some (false, .tup (parts.map enP)), some (false, enR R), some (false, enP X), some (false, enP Z), none, none, none, none, none] ∧ Z.Sublist N ∧ X ⊆ Z ∧ (∀ c ∈ Z, ptold parts R X c) ∧ m = N.length - Z.length) (m := N.length - X.length) ?_ ?_ ?_
  · show N.length - X.length < wn
    omega
  · exact ⟨X, rfl, hX, fun _ h => h, fun c hc => ptold_mem hc, rfl⟩
  · rintro m r ⟨Z, rfl, h1, h2, h3, h4⟩
    have z5 := sub_len hN h1
    simp only [wp_con, wp_loc, wp_bin, wp_neg, wp_not, wp_and, wp_or, wp_ite, wp_cmp, wp_chain, wp_tup, wp_lst, wp_call, wp_bi, wp_isi, wp_sub, wp_sli, wp_rev, wp_lc, wp_dct, wp_dc, wp_me, wp_glo, wps_nil, wps_cons, wpos_nil, wpos_cons, wpts_nil, wpts_cons, wpo_none, wpo_some, wxs_nil, wxs_cons, wx_set, wx_par, wx_tgt, wx_aug, wx_app, wx_ext, wx_sti, wx_dput, wx_exp, wx_ret, wx_ife, wx_for, wx_brk, wx_cnt, wx_pas, wx_fz, mkW_v, mkW_o, mkW_t, opt_some, asI_int, evV_0, evV_s, evL_0, evL_s, setO_f, setO_T, setO_l, frz_nil, frz_cons, List.getElem?_cons_zero, List.getElem?_cons_succ, List.set_cons_zero, List.set_cons_succ, ownL_0, ownL_s, ownD_0, ownD_s, setO_d, pairUp_nil, pairUp_cons, dPuts_nil, setOs_nil, setOs_cons, bindAll_nil, bindAll_cons, bindT_nm, bindT_tp, bindTs_nil, bindTs_cons, wipeE_nil, wipeE_cons, Option.bind_some, Option.map_some, ends, cl_args, List.map_cons, List.map_nil, List.cons_append, List.nil_append, rep_0, rep_s, truD_bl, Bool.not_not, if_true_eq, if_false_eq, isStr, if_true, if_false, Bool.false_eq_true, eq_self, w1_told_by_parts, it_P]
    refine wdc_keys (en := D.str) (v := .bl true) En_str (fun _ => rfl) (fun s K' hK' => ?_) Z [] ?_ ?_
    · simp only [wdT, k1_told_by_parts, e1_told_by_parts, wp_con, wp_loc, wp_bin, wp_neg, wp_not, wp_and, wp_or, wp_ite, wp_cmp, wp_chain, wp_tup, wp_lst, wp_call, wp_bi, wp_isi, wp_sub, wp_sli, wp_rev, wp_lc, wp_dct, wp_dc, wp_me, wp_glo, wps_nil, wps_cons, wpos_nil, wpos_cons, wpts_nil, wpts_cons, wpo_none, wpo_some, wxs_nil, wxs_cons, wx_set, wx_par, wx_tgt, wx_aug, wx_app, wx_ext, wx_sti, wx_dput, wx_exp, wx_ret, wx_ife, wx_for, wx_brk, wx_cnt, wx_pas, wx_fz, mkW_v, mkW_o, mkW_t, opt_some, asI_int, evV_0, evV_s, evL_0, evL_s, setO_f, setO_T, setO_l, frz_nil, frz_cons, List.getElem?_cons_zero, List.getElem?_cons_succ, List.set_cons_zero, List.set_cons_succ, ownL_0, ownL_s, ownD_0, ownD_s, setO_d, pairUp_nil, pairUp_cons, dPuts_nil, setOs_nil, setOs_cons, bindAll_nil, bindAll_cons, bindT_nm, bindT_tp, bindTs_nil, bindTs_cons, wipeE_nil, wipeE_cons, Option.bind_some, Option.map_some, ends, cl_args, List.map_cons, List.map_nil, List.cons_append, List.nil_append, rep_0, rep_s, truD_bl, Bool.not_not, if_true_eq, if_false_eq, isStr, if_true, if_false, Bool.false_eq_true, eq_self]
      exact hK'
    · simp
      omega
    · obtain ⟨nd, me⟩ := fold_addE Z [] .nil
      generalize Z.foldl addE [] = l0 at nd me ⊢
      have m0 : ∀ c, c ∈ l0 ↔ c ∈ Z := fun c => by simpa using me c
      simp only [wp_con, wp_loc, wp_bin, wp_neg, wp_not, wp_and, wp_or, wp_ite, wp_cmp, wp_chain, wp_tup, wp_lst, wp_call, wp_bi, wp_isi, wp_sub, wp_sli, wp_rev, wp_lc, wp_dct, wp_dc, wp_me, wp_glo, wps_nil, wps_cons, wpos_nil, wpos_cons, wpts_nil, wpts_cons, wpo_none, wpo_some, wxs_nil, wxs_cons, wx_set, wx_par, wx_tgt, wx_aug, wx_app, wx_ext, wx_sti, wx_dput, wx_exp, wx_ret, wx_ife, wx_for, wx_brk, wx_cnt, wx_pas, wx_fz, mkW_v, mkW_o, mkW_t, opt_some, asI_int, evV_0, evV_s, evL_0, evL_s, setO_f, setO_T, setO_l, frz_nil, frz_cons, List.getElem?_cons_zero, List.getElem?_cons_succ, List.set_cons_zero, List.set_cons_succ, ownL_0, ownL_s, ownD_0, ownD_s, setO_d, pairUp_nil, pairUp_cons, dPuts_nil, setOs_nil, setOs_cons, bindAll_nil, bindAll_cons, bindT_nm, bindT_tp, bindTs_nil, bindTs_cons, wipeE_nil, wipeE_cons, Option.bind_some, Option.map_some, ends, cl_args, List.map_cons, List.map_nil, List.cons_append, List.nil_append, rep_0, rep_s, truD_bl, Bool.not_not, if_true_eq, if_false_eq, isStr, if_true, if_false, Bool.false_eq_true, eq_self, w1t1_told_by_parts, itT]
      refine for_inv (fun (rest : List (List Nm)) r => ∃ l, r = [some (false, .tup (parts.map enP)), some (false, enR R), some (false, enP X), some (false, enP Z), some (true, .dic (kvE .str (.bl true) l)), none, none, none, none] ∧ l.Nodup ∧ Z ⊆ l ∧ l ⊆ N ∧ (∀ c ∈ l, ptold parts R X c) ∧ (∀ P ∈ rest, P ∈ parts) ∧ (∀ P ∈ parts, P ∈ rest ∨ ∀ c ∈ P, told R (inP P Z) c → c ∈ l)) ?_ ?_ ?_
      · exact ⟨l0, rfl, nd, fun x hx => (m0 x).mpr hx, fun x hx => h1.subset ((m0 x).mp hx), fun c hc => h3 c ((m0 c).mp hc), fun _ h => h, fun P hP => .inl hP⟩
      · rintro P rest r ⟨l, rfl, g1, g2, g3, g4, g5, g6⟩
        have hP := g5 P List.mem_cons_self
        simp only [wfT, b2_told_by_parts, wp_con, wp_loc, wp_bin, wp_neg, wp_not, wp_and, wp_or, wp_ite, wp_cmp, wp_chain, wp_tup, wp_lst, wp_call, wp_bi, wp_isi, wp_sub, wp_sli, wp_rev, wp_lc, wp_dct, wp_dc, wp_me, wp_glo, wps_nil, wps_cons, wpos_nil, wpos_cons, wpts_nil, wpts_cons, wpo_none, wpo_some, wxs_nil, wxs_cons, wx_set, wx_par, wx_tgt, wx_aug, wx_app, wx_ext, wx_sti, wx_dput, wx_exp, wx_ret, wx_ife, wx_for, wx_brk, wx_cnt, wx_pas, wx_fz, mkW_v, mkW_o, mkW_t, opt_some, asI_int, evV_0, evV_s, evL_0, evL_s, setO_f, setO_T, setO_l, frz_nil, frz_cons, List.getElem?_cons_zero, List.getElem?_cons_succ, List.set_cons_zero, List.set_cons_succ, ownL_0, ownL_s, ownD_0, ownD_s, setO_d, pairUp_nil, pairUp_cons, dPuts_nil, setOs_nil, setOs_cons, bindAll_nil, bindAll_cons, bindT_nm, bindT_tp, bindTs_nil, bindTs_cons, wipeE_nil, wipeE_cons, Option.bind_some, Option.map_some, ends, cl_args, List.map_cons, List.map_nil, List.cons_append, List.nil_append, rep_0, rep_s, truD_bl, Bool.not_not, if_true_eq, if_false_eq, isStr, if_true, if_false, Bool.false_eq_true, eq_self, it_P]
        refine wlc_filter (fun x => decide (x ∈ P)) D.str (fun x hx K' hK' => ?_) ?_
        · simp only [wlT, q1_told_by_parts, e2_told_by_parts, wp_con, wp_loc, wp_bin, wp_neg, wp_not, wp_and, wp_or, wp_ite, wp_cmp, wp_chain, wp_tup, wp_lst, wp_call, wp_bi, wp_isi, wp_sub, wp_sli, wp_rev, wp_lc, wp_dct, wp_dc, wp_me, wp_glo, wps_nil, wps_cons, wpos_nil, wpos_cons, wpts_nil, wpts_cons, wpo_none, wpo_some, wxs_nil, wxs_cons, wx_set, wx_par, wx_tgt, wx_aug, wx_app, wx_ext, wx_sti, wx_dput, wx_exp, wx_ret, wx_ife, wx_for, wx_brk, wx_cnt, wx_pas, wx_fz, mkW_v, mkW_o, mkW_t, opt_some, asI_int, evV_0, evV_s, evL_0, evL_s, setO_f, setO_T, setO_l, frz_nil, frz_cons, List.getElem?_cons_zero, List.getElem?_cons_succ, List.set_cons_zero, List.set_cons_succ, ownL_0, ownL_s, ownD_0, ownD_s, setO_d, pairUp_nil, pairUp_cons, dPuts_nil, setOs_nil, setOs_cons, bindAll_nil, bindAll_cons, bindT_nm, bindT_tp, bindTs_nil, bindTs_cons, wipeE_nil, wipeE_cons, Option.bind_some, Option.map_some, ends, cl_args, List.map_cons, List.map_nil, List.cons_append, List.nil_append, rep_0, rep_s, truD_bl, Bool.not_not, if_true_eq, if_false_eq, isStr, if_true, if_false, Bool.false_eq_true, eq_self, in_P]
          cases hb : decide (x ∈ P) with
          | true =>
            rw [hb] at hK'
            try simp only [wp_con, wp_loc, wp_bin, wp_neg, wp_not, wp_and, wp_or, wp_ite, wp_cmp, wp_chain, wp_tup, wp_lst, wp_call, wp_bi, wp_isi, wp_sub, wp_sli, wp_rev, wp_lc, wp_dct, wp_dc, wp_me, wp_glo, wps_nil, wps_cons, wpos_nil, wpos_cons, wpts_nil, wpts_cons, wpo_none, wpo_some, wxs_nil, wxs_cons, wx_set, wx_par, wx_tgt, wx_aug, wx_app, wx_ext, wx_sti, wx_dput, wx_exp, wx_ret, wx_ife, wx_for, wx_brk, wx_cnt, wx_pas, wx_fz, mkW_v, mkW_o, mkW_t, opt_some, asI_int, evV_0, evV_s, evL_0, evL_s, setO_f, setO_T, setO_l, frz_nil, frz_cons, List.getElem?_cons_zero, List.getElem?_cons_succ, List.set_cons_zero, List.set_cons_succ, ownL_0, ownL_s, ownD_0, ownD_s, setO_d, pairUp_nil, pairUp_cons, dPuts_nil, setOs_nil, setOs_cons, bindAll_nil, bindAll_cons, bindT_nm, bindT_tp, bindTs_nil, bindTs_cons, wipeE_nil, wipeE_cons, Option.bind_some, Option.map_some, ends, cl_args, List.map_cons, List.map_nil, List.cons_append, List.nil_append, rep_0, rep_s, truD_bl, Bool.not_not, if_true_eq, if_false_eq, isStr, if_true, if_false, Bool.false_eq_true, eq_self]
            exact hK'
          | false =>
            rw [hb] at hK'
            try simp only [wp_con, wp_loc, wp_bin, wp_neg, wp_not, wp_and, wp_or, wp_ite, wp_cmp, wp_chain, wp_tup, wp_lst, wp_call, wp_bi, wp_isi, wp_sub, wp_sli, wp_rev, wp_lc, wp_dct, wp_dc, wp_me, wp_glo, wps_nil, wps_cons, wpos_nil, wpos_cons, wpts_nil, wpts_cons, wpo_none, wpo_some, wxs_nil, wxs_cons, wx_set, wx_par, wx_tgt, wx_aug, wx_app, wx_ext, wx_sti, wx_dput, wx_exp, wx_ret, wx_ife, wx_for, wx_brk, wx_cnt, wx_pas, wx_fz, mkW_v, mkW_o, mkW_t, opt_some, asI_int, evV_0, evV_s, evL_0, evL_s, setO_f, setO_T, setO_l, frz_nil, frz_cons, List.getElem?_cons_zero, List.getElem?_cons_succ, List.set_cons_zero, List.set_cons_succ, ownL_0, ownL_s, ownD_0, ownD_s, setO_d, pairUp_nil, pairUp_cons, dPuts_nil, setOs_nil, setOs_cons, bindAll_nil, bindAll_cons, bindT_nm, bindT_tp, bindTs_nil, bindTs_cons, wipeE_nil, wipeE_cons, Option.bind_some, Option.map_some, ends, cl_args, List.map_cons, List.map_nil, List.cons_append, List.nil_append, rep_0, rep_s, truD_bl, Bool.not_not, if_true_eq, if_false_eq, isStr, if_true, if_false, Bool.false_eq_true, eq_self]
            exact hK'
        · refine c_told_names (X := inP P Z) hw hN hR itL ((List.filter_sublist ..).trans h1) ?_
          simp only [wp_con, wp_loc, wp_bin, wp_neg, wp_not, wp_and, wp_or, wp_ite, wp_cmp, wp_chain, wp_tup, wp_lst, wp_call, wp_bi, wp_isi, wp_sub, wp_sli, wp_rev, wp_lc, wp_dct, wp_dc, wp_me, wp_glo, wps_nil, wps_cons, wpos_nil, wpos_cons, wpts_nil, wpts_cons, wpo_none, wpo_some, wxs_nil, wxs_cons, wx_set, wx_par, wx_tgt, wx_aug, wx_app, wx_ext, wx_sti, wx_dput, wx_exp, wx_ret, wx_ife, wx_for, wx_brk, wx_cnt, wx_pas, wx_fz, mkW_v, mkW_o, mkW_t, opt_some, asI_int, evV_0, evV_s, evL_0, evL_s, setO_f, setO_T, setO_l, frz_nil, frz_cons, List.getElem?_cons_zero, List.getElem?_cons_succ, List.set_cons_zero, List.set_cons_succ, ownL_0, ownL_s, ownD_0, ownD_s, setO_d, pairUp_nil, pairUp_cons, dPuts_nil, setOs_nil, setOs_cons, bindAll_nil, bindAll_cons, bindT_nm, bindT_tp, bindTs_nil, bindTs_cons, wipeE_nil, wipeE_cons, Option.bind_some, Option.map_some, ends, cl_args, List.map_cons, List.map_nil, List.cons_append, List.nil_append, rep_0, rep_s, truD_bl, Bool.not_not, if_true_eq, if_false_eq, isStr, if_true, if_false, Bool.false_eq_true, eq_self, it_P]
          refine wlc_filter (fun x => decide (x ∈ P)) D.str (fun x hx K' hK' => ?_) ?_
          · simp only [wlT, q2_told_by_parts, e3_told_by_parts, wp_con, wp_loc, wp_bin, wp_neg, wp_not, wp_and, wp_or, wp_ite, wp_cmp, wp_chain, wp_tup, wp_lst, wp_call, wp_bi, wp_isi, wp_sub, wp_sli, wp_rev, wp_lc, wp_dct, wp_dc, wp_me, wp_glo, wps_nil, wps_cons, wpos_nil, wpos_cons, wpts_nil, wpts_cons, wpo_none, wpo_some, wxs_nil, wxs_cons, wx_set, wx_par, wx_tgt, wx_aug, wx_app, wx_ext, wx_sti, wx_dput, wx_exp, wx_ret, wx_ife, wx_for, wx_brk, wx_cnt, wx_pas, wx_fz, mkW_v, mkW_o, mkW_t, opt_some, asI_int, evV_0, evV_s, evL_0, evL_s, setO_f, setO_T, setO_l, frz_nil, frz_cons, List.getElem?_cons_zero, List.getElem?_cons_succ, List.set_cons_zero, List.set_cons_succ, ownL_0, ownL_s, ownD_0, ownD_s, setO_d, pairUp_nil, pairUp_cons, dPuts_nil, setOs_nil, setOs_cons, bindAll_nil, bindAll_cons, bindT_nm, bindT_tp, bindTs_nil, bindTs_cons, wipeE_nil, wipeE_cons, Option.bind_some, Option.map_some, ends, cl_args, List.map_cons, List.map_nil, List.cons_append, List.nil_append, rep_0, rep_s, truD_bl, Bool.not_not, if_true_eq, if_false_eq, isStr, if_true, if_false, Bool.false_eq_true, eq_self, in_P]
            cases hb : decide (x ∈ P) with
            | true =>
              rw [hb] at hK'
              try simp only [wp_con, wp_loc, wp_bin, wp_neg, wp_not, wp_and, wp_or, wp_ite, wp_cmp, wp_chain, wp_tup, wp_lst, wp_call, wp_bi, wp_isi, wp_sub, wp_sli, wp_rev, wp_lc, wp_dct, wp_dc, wp_me, wp_glo, wps_nil, wps_cons, wpos_nil, wpos_cons, wpts_nil, wpts_cons, wpo_none, wpo_some, wxs_nil, wxs_cons, wx_set, wx_par, wx_tgt, wx_aug, wx_app, wx_ext, wx_sti, wx_dput, wx_exp, wx_ret, wx_ife, wx_for, wx_brk, wx_cnt, wx_pas, wx_fz, mkW_v, mkW_o, mkW_t, opt_some, asI_int, evV_0, evV_s, evL_0, evL_s, setO_f, setO_T, setO_l, frz_nil, frz_cons, List.getElem?_cons_zero, List.getElem?_cons_succ, List.set_cons_zero, List.set_cons_succ, ownL_0, ownL_s, ownD_0, ownD_s, setO_d, pairUp_nil, pairUp_cons, dPuts_nil, setOs_nil, setOs_cons, bindAll_nil, bindAll_cons, bindT_nm, bindT_tp, bindTs_nil, bindTs_cons, wipeE_nil, wipeE_cons, Option.bind_some, Option.map_some, ends, cl_args, List.map_cons, List.map_nil, List.cons_append, List.nil_append, rep_0, rep_s, truD_bl, Bool.not_not, if_true_eq, if_false_eq, isStr, if_true, if_false, Bool.false_eq_true, eq_self]
              exact hK'
            | false =>
              rw [hb] at hK'
              try simp only [wp_con, wp_loc, wp_bin, wp_neg, wp_not, wp_and, wp_or, wp_ite, wp_cmp, wp_chain, wp_tup, wp_lst, wp_call, wp_bi, wp_isi, wp_sub, wp_sli, wp_rev, wp_lc, wp_dct, wp_dc, wp_me, wp_glo, wps_nil, wps_cons, wpos_nil, wpos_cons, wpts_nil, wpts_cons, wpo_none, wpo_some, wxs_nil, wxs_cons, wx_set, wx_par, wx_tgt, wx_aug, wx_app, wx_ext, wx_sti, wx_dput, wx_exp, wx_ret, wx_ife, wx_for, wx_brk, wx_cnt, wx_pas, wx_fz, mkW_v, mkW_o, mkW_t, opt_some, asI_int, evV_0, evV_s, evL_0, evL_s, setO_f, setO_T, setO_l, frz_nil, frz_cons, List.getElem?_cons_zero, List.getElem?_cons_succ, List.set_cons_zero, List.set_cons_succ, ownL_0, ownL_s, ownD_0, ownD_s, setO_d, pairUp_nil, pairUp_cons, dPuts_nil, setOs_nil, setOs_cons, bindAll_nil, bindAll_cons, bindT_nm, bindT_tp, bindTs_nil, bindTs_cons, wipeE_nil, wipeE_cons, Option.bind_some, Option.map_some, ends, cl_args, List.map_cons, List.map_nil, List.cons_append, List.nil_append, rep_0, rep_s, truD_bl, Bool.not_not, if_true_eq, if_false_eq, isStr, if_true, if_false, Bool.false_eq_true, eq_self]
              exact hK'
          · simp only [wp_con, wp_loc, wp_bin, wp_neg, wp_not, wp_and, wp_or, wp_ite, wp_cmp, wp_chain, wp_tup, wp_lst, wp_call, wp_bi, wp_isi, wp_sub, wp_sli, wp_rev, wp_lc, wp_dct, wp_dc, wp_me, wp_glo, wps_nil, wps_cons, wpos_nil, wpos_cons, wpts_nil, wpts_cons, wpo_none, wpo_some, wxs_nil, wxs_cons, wx_set, wx_par, wx_tgt, wx_aug, wx_app, wx_ext, wx_sti, wx_dput, wx_exp, wx_ret, wx_ife, wx_for, wx_brk, wx_cnt, wx_pas, wx_fz, mkW_v, mkW_o, mkW_t, opt_some, asI_int, evV_0, evV_s, evL_0, evL_s, setO_f, setO_T, setO_l, frz_nil, frz_cons, List.getElem?_cons_zero, List.getElem?_cons_succ, List.set_cons_zero, List.set_cons_succ, ownL_0, ownL_s, ownD_0, ownD_s, setO_d, pairUp_nil, pairUp_cons, dPuts_nil, setOs_nil, setOs_cons, bindAll_nil, bindAll_cons, bindT_nm, bindT_tp, bindTs_nil, bindTs_cons, wipeE_nil, wipeE_cons, Option.bind_some, Option.map_some, ends, cl_args, List.map_cons, List.map_nil, List.cons_append, List.nil_append, rep_0, rep_s, truD_bl, Bool.not_not, if_true_eq, if_false_eq, isStr, if_true, if_false, Bool.false_eq_true, eq_self, b2t1_told_by_parts, itL]
            have hmine : ∀ c, c ∈ (N.filter (tl R (inP P Z))).filter (fun x => decide (x ∈ P)) ↔ c ∈ N ∧ told R (inP P Z) c ∧ c ∈ P := fun c => by
              rw [List.mem_filter, List.mem_filter, tl_iff, decide_eq_true_iff, and_assoc]
            generalize (N.filter (tl R (inP P Z))).filter (fun x => decide (x ∈ P)) = mine at hmine
            refine for_inv (fun (rs : List Nm) r => ∃ l', r = [some (false, .tup (parts.map enP)), some (false, enR R), some (false, enP X), some (false, enP Z), some (true, .dic (kvE .str (.bl true) l')), some (false, enP P), some (false, .lst (mine.map .str)), none, none] ∧ l'.Nodup ∧ l ⊆ l' ∧ l' ⊆ N ∧ (∀ c ∈ l', ptold parts R X c) ∧ (∀ c ∈ rs, c ∈ mine) ∧ (∀ c ∈ mine, c ∈ rs ∨ c ∈ l')) ?_ ?_ ?_
            · exact ⟨l, rfl, g1, fun _ h => h, g3, g4, fun _ h => h, fun c hc => .inl hc⟩
            · rintro c rs r ⟨l', rfl, f1, f2, f3, f4, f5, f6⟩
              have hl' := len_sub f1 f3
              obtain ⟨c1, c2, c3⟩ := (hmine c).mp (f5 c List.mem_cons_self)
              simp only [wfT, b1_told_by_parts, wp_con, wp_loc, wp_bin, wp_neg, wp_not, wp_and, wp_or, wp_ite, wp_cmp, wp_chain, wp_tup, wp_lst, wp_call, wp_bi, wp_isi, wp_sub, wp_sli, wp_rev, wp_lc, wp_dct, wp_dc, wp_me, wp_glo, wps_nil, wps_cons, wpos_nil, wpos_cons, wpts_nil, wpts_cons, wpo_none, wpo_some, wxs_nil, wxs_cons, wx_set, wx_par, wx_tgt, wx_aug, wx_app, wx_ext, wx_sti, wx_dput, wx_exp, wx_ret, wx_ife, wx_for, wx_brk, wx_cnt, wx_pas, wx_fz, mkW_v, mkW_o, mkW_t, opt_some, asI_int, evV_0, evV_s, evL_0, evL_s, setO_f, setO_T, setO_l, frz_nil, frz_cons, List.getElem?_cons_zero, List.getElem?_cons_succ, List.set_cons_zero, List.set_cons_succ, ownL_0, ownL_s, ownD_0, ownD_s, setO_d, pairUp_nil, pairUp_cons, dPuts_nil, setOs_nil, setOs_cons, bindAll_nil, bindAll_cons, bindT_nm, bindT_tp, bindTs_nil, bindTs_cons, wipeE_nil, wipeE_cons, Option.bind_some, Option.map_some, ends, cl_args, List.map_cons, List.map_nil, List.cons_append, List.nil_append, rep_0, rep_s, truD_bl, Bool.not_not, if_true_eq, if_false_eq, isStr, if_true, if_false, Bool.false_eq_true, eq_self, kvE_put En_str]
              refine ⟨⟨kvE_ok En_str, by rw [kvE_len]; omega⟩, _, ?_, addE l' c, rfl, addE_nodup f1, fun x hx => addE_mem.mpr (.inl (f2 hx)), fun x hx => ?_, fun x hx => ?_, fun x hx => f5 x (List.mem_cons_of_mem _ hx), fun x hx => ?_⟩
              · (apply LeI.le; repeat (first | exact LeI.nil | apply LeI.s | apply LeI.n | apply LeI.r))
              · rcases addE_mem.mp hx with q | rfl
                · exact f3 q
                · exact c1
              · rcases addE_mem.mp hx with q | rfl
                · exact f4 x q
                · exact fun W w1 w2 => w2 P hP x c3 (told_mono (fun y hy => mem_inP.mpr ⟨h3 y (mem_inP.mp hy).1 W w1 w2, (mem_inP.mp hy).2⟩) c2)
              · rcases f6 x hx with q | q
                · rcases List.mem_cons.mp q with rfl | q
                  · exact .inr (addE_mem.mpr (.inr rfl))
                  · exact .inl q
                · exact .inr (addE_mem.mpr (.inl q))
            · rintro r ⟨l', rfl, f1, f2, f3, f4, f5, f6⟩
              try simp only [wp_con, wp_loc, wp_bin, wp_neg, wp_not, wp_and, wp_or, wp_ite, wp_cmp, wp_chain, wp_tup, wp_lst, wp_call, wp_bi, wp_isi, wp_sub, wp_sli, wp_rev, wp_lc, wp_dct, wp_dc, wp_me, wp_glo, wps_nil, wps_cons, wpos_nil, wpos_cons, wpts_nil, wpts_cons, wpo_none, wpo_some, wxs_nil, wxs_cons, wx_set, wx_par, wx_tgt, wx_aug, wx_app, wx_ext, wx_sti, wx_dput, wx_exp, wx_ret, wx_ife, wx_for, wx_brk, wx_cnt, wx_pas, wx_fz, mkW_v, mkW_o, mkW_t, opt_some, asI_int, evV_0, evV_s, evL_0, evL_s, setO_f, setO_T, setO_l, frz_nil, frz_cons, List.getElem?_cons_zero, List.getElem?_cons_succ, List.set_cons_zero, List.set_cons_succ, ownL_0, ownL_s, ownD_0, ownD_s, setO_d, pairUp_nil, pairUp_cons, dPuts_nil, setOs_nil, setOs_cons, bindAll_nil, bindAll_cons, bindT_nm, bindT_tp, bindTs_nil, bindTs_cons, wipeE_nil, wipeE_cons, Option.bind_some, Option.map_some, ends, cl_args, List.map_cons, List.map_nil, List.cons_append, List.nil_append, rep_0, rep_s, truD_bl, Bool.not_not, if_true_eq, if_false_eq, isStr, if_true, if_false, Bool.false_eq_true, eq_self]
              refine ⟨_, ?_, l', rfl, f1, fun x hx => f2 (g2 hx), f3, f4, fun Q hQ => g5 Q (List.mem_cons_of_mem _ hQ), fun Q hQ => ?_⟩
              · (apply LeI.le; repeat (first | exact LeI.nil | apply LeI.s | apply LeI.n | apply LeI.r))
              · rcases g6 Q hQ with q | q
                · rcases List.mem_cons.mp q with rfl | q
                  · refine .inr fun c hc t => ?_
                    have := f6 c ((hmine c).mpr ⟨(hp Q hQ).subset hc, t, hc⟩)
                    rcases this with q | q
                    · cases q
                    · exact q
                  · exact .inl q
                · exact .inr fun c hc t => f2 (q c hc t)
      · rintro r ⟨l, rfl, g1, g2, g3, g4, g5, g6⟩
        simp only [wp_con, wp_loc, wp_bin, wp_neg, wp_not, wp_and, wp_or, wp_ite, wp_cmp, wp_chain, wp_tup, wp_lst, wp_call, wp_bi, wp_isi, wp_sub, wp_sli, wp_rev, wp_lc, wp_dct, wp_dc, wp_me, wp_glo, wps_nil, wps_cons, wpos_nil, wpos_cons, wpts_nil, wpts_cons, wpo_none, wpo_some, wxs_nil, wxs_cons, wx_set, wx_par, wx_tgt, wx_aug, wx_app, wx_ext, wx_sti, wx_dput, wx_exp, wx_ret, wx_ife, wx_for, wx_brk, wx_cnt, wx_pas, wx_fz, mkW_v, mkW_o, mkW_t, opt_some, asI_int, evV_0, evV_s, evL_0, evL_s, setO_f, setO_T, setO_l, frz_nil, frz_cons, List.getElem?_cons_zero, List.getElem?_cons_succ, List.set_cons_zero, List.set_cons_succ, ownL_0, ownL_s, ownD_0, ownD_s, setO_d, pairUp_nil, pairUp_cons, dPuts_nil, setOs_nil, setOs_cons, bindAll_nil, bindAll_cons, bindT_nm, bindT_tp, bindTs_nil, bindTs_cons, wipeE_nil, wipeE_cons, Option.bind_some, Option.map_some, ends, cl_args, List.map_cons, List.map_nil, List.cons_append, List.nil_append, rep_0, rep_s, truD_bl, Bool.not_not, if_true_eq, if_false_eq, isStr, if_true, if_false, Bool.false_eq_true, eq_self, w1t2_told_by_parts, sorted_dic (sortable_at En_str l fun _ => rfl), srt_names hN g1 g3, tuple_P, eq_P]
        have hin : ∀ c, c ∈ res N l ↔ c ∈ l := fun c => by
          rw [mem_res]
          exact ⟨fun h => h.2, fun h => ⟨g3 h, h⟩⟩
        by_cases he : res N l = Z
        · simp only [decide_eq_true he, wp_con, wp_loc, wp_bin, wp_neg, wp_not, wp_and, wp_or, wp_ite, wp_cmp, wp_chain, wp_tup, wp_lst, wp_call, wp_bi, wp_isi, wp_sub, wp_sli, wp_rev, wp_lc, wp_dct, wp_dc, wp_me, wp_glo, wps_nil, wps_cons, wpos_nil, wpos_cons, wpts_nil, wpts_cons, wpo_none, wpo_some, wxs_nil, wxs_cons, wx_set, wx_par, wx_tgt, wx_aug, wx_app, wx_ext, wx_sti, wx_dput, wx_exp, wx_ret, wx_ife, wx_for, wx_brk, wx_cnt, wx_pas, wx_fz, mkW_v, mkW_o, mkW_t, opt_some, asI_int, evV_0, evV_s, evL_0, evL_s, setO_f, setO_T, setO_l, frz_nil, frz_cons, List.getElem?_cons_zero, List.getElem?_cons_succ, List.set_cons_zero, List.set_cons_succ, ownL_0, ownL_s, ownD_0, ownD_s, setO_d, pairUp_nil, pairUp_cons, dPuts_nil, setOs_nil, setOs_cons, bindAll_nil, bindAll_cons, bindT_nm, bindT_tp, bindTs_nil, bindTs_cons, wipeE_nil, wipeE_cons, Option.bind_some, Option.map_some, ends, cl_args, List.map_cons, List.map_nil, List.cons_append, List.nil_append, rep_0, rep_s, truD_bl, Bool.not_not, if_true_eq, if_false_eq, isStr, if_true, if_false, Bool.false_eq_true, eq_self]
          have sn : SeenP parts R Z := fun P hP c hc t => by
            rcases g6 P hP with q | q
            · cases q
            · have := q c hc t
              rw [← he]
              exact (hin c).mpr this
          have e : Z = N.filter (ptl parts R X) := by
            rw [sub_res hN.nd h1]
            refine filter_ext fun c hc => ?_
            rw [decide_eq_true_iff, ptl_iff]
            exact ⟨fun h => h3 c h, fun t => t Z h2 sn⟩
          rw [e]
          exact hk
        · simp only [decide_eq_false he, wp_con, wp_loc, wp_bin, wp_neg, wp_not, wp_and, wp_or, wp_ite, wp_cmp, wp_chain, wp_tup, wp_lst, wp_call, wp_bi, wp_isi, wp_sub, wp_sli, wp_rev, wp_lc, wp_dct, wp_dc, wp_me, wp_glo, wps_nil, wps_cons, wpos_nil, wpos_cons, wpts_nil, wpts_cons, wpo_none, wpo_some, wxs_nil, wxs_cons, wx_set, wx_par, wx_tgt, wx_aug, wx_app, wx_ext, wx_sti, wx_dput, wx_exp, wx_ret, wx_ife, wx_for, wx_brk, wx_cnt, wx_pas, wx_fz, mkW_v, mkW_o, mkW_t, opt_some, asI_int, evV_0, evV_s, evL_0, evL_s, setO_f, setO_T, setO_l, frz_nil, frz_cons, List.getElem?_cons_zero, List.getElem?_cons_succ, List.set_cons_zero, List.set_cons_succ, ownL_0, ownL_s, ownD_0, ownD_s, setO_d, pairUp_nil, pairUp_cons, dPuts_nil, setOs_nil, setOs_cons, bindAll_nil, bindAll_cons, bindT_nm, bindT_tp, bindTs_nil, bindTs_cons, wipeE_nil, wipeE_cons, Option.bind_some, Option.map_some, ends, cl_args, List.map_cons, List.map_nil, List.cons_append, List.nil_append, rep_0, rep_s, truD_bl, Bool.not_not, if_true_eq, if_false_eq, isStr, if_true, if_false, Bool.false_eq_true, eq_self, w1t3_told_by_parts, sorted_dic (sortable_at En_str l fun _ => rfl), srt_names hN g1 g3, tuple_P]
          have s1 : Z ⊆ res N l := fun x hx => (hin x).mpr (g2 hx)
          have l1 := len_sub (sub_nodup hN h1) s1
          have l2 := sub_len hN (res_sub (N := N) (Z := l))
          have l3 := res_sub (N := N) (Z := l).length_le
          refine ⟨_, ?_, N.length - (res N l).length, ?_, res N l, rfl, res_sub, fun x hx => s1 (h2 hx), fun c hc => g4 c ((hin c).mp hc), rfl⟩
          · (apply LeI.le; repeat (first | exact LeI.nil | apply LeI.s | apply LeI.n | apply LeI.r))
          · have : Z.length ≠ (res N l).length := fun q => he (sub_ext hN.nd res_sub h1 fun c => ⟨fun h => sub_of_len (sub_nodup hN h1) s1 (by omega) h, fun h => s1 h⟩)
            omega
theorem c_lost (hw : 10 ≤ wn) (hN : NO N) (hR : RO N R) (hp : ∀ P ∈ parts, P.Sublist N) (hk : K (enR (R.filter fun r => !ptl parts R r.1 r.2))) : Cl (G wn (k + 3)) 7 [.tup (parts.map enP), enR R] K := by
  refine cl_def rfl rfl rfl ?_
  simp only [u_lost_rules, wp_con, wp_loc, wp_bin, wp_neg, wp_not, wp_and, wp_or, wp_ite, wp_cmp, wp_chain, wp_tup, wp_lst, wp_call, wp_bi, wp_isi, wp_sub, wp_sli, wp_rev, wp_lc, wp_dct, wp_dc, wp_me, wp_glo, wps_nil, wps_cons, wpos_nil, wpos_cons, wpts_nil, wpts_cons, wpo_none, wpo_some, wxs_nil, wxs_cons, wx_set, wx_par, wx_tgt, wx_aug, wx_app, wx_ext, wx_sti, wx_dput, wx_exp, wx_ret, wx_ife, wx_for, wx_brk, wx_cnt, wx_pas, wx_fz, mkW_v, mkW_o, mkW_t, opt_some, asI_int, evV_0, evV_s, evL_0, evL_s, setO_f, setO_T, setO_l, frz_nil, frz_cons, List.getElem?_cons_zero, List.getElem?_cons_succ, List.set_cons_zero, List.set_cons_succ, ownL_0, ownL_s, ownD_0, ownD_s, setO_d, pairUp_nil, pairUp_cons, dPuts_nil, setOs_nil, setOs_cons, bindAll_nil, bindAll_cons, bindT_nm, bindT_tp, bindTs_nil, bindTs_cons, wipeE_nil, wipeE_cons, Option.bind_some, Option.map_some, ends, cl_args, List.map_cons, List.map_nil, List.cons_append, List.nil_append, rep_0, rep_s, truD_bl, Bool.not_not, if_true_eq, if_false_eq, isStr, if_true, if_false, Bool.false_eq_true, eq_self, it_R]
  refine wlc_filter (fun r => !ptl parts R r.1 r.2) enr (fun r hr K' hK' => ?_) ?_
  · have e0 : subD (enr r) (.int 0) = some (enP r.1) := sub_tup (i := 0) rfl
    have e1 : subD (enr r) (.int 1) = some (.str r.2) := sub_tup (i := 1) rfl
    simp only [wlT, q1_lost_rules, wp_con, wp_loc, wp_bin, wp_neg, wp_not, wp_and, wp_or, wp_ite, wp_cmp, wp_chain, wp_tup, wp_lst, wp_call, wp_bi, wp_isi, wp_sub, wp_sli, wp_rev, wp_lc, wp_dct, wp_dc, wp_me, wp_glo, wps_nil, wps_cons, wpos_nil, wpos_cons, wpts_nil, wpts_cons, wpo_none, wpo_some, wxs_nil, wxs_cons, wx_set, wx_par, wx_tgt, wx_aug, wx_app, wx_ext, wx_sti, wx_dput, wx_exp, wx_ret, wx_ife, wx_for, wx_brk, wx_cnt, wx_pas, wx_fz, mkW_v, mkW_o, mkW_t, opt_some, asI_int, evV_0, evV_s, evL_0, evL_s, setO_f, setO_T, setO_l, frz_nil, frz_cons, List.getElem?_cons_zero, List.getElem?_cons_succ, List.set_cons_zero, List.set_cons_succ, ownL_0, ownL_s, ownD_0, ownD_s, setO_d, pairUp_nil, pairUp_cons, dPuts_nil, setOs_nil, setOs_cons, bindAll_nil, bindAll_cons, bindT_nm, bindT_tp, bindTs_nil, bindTs_cons, wipeE_nil, wipeE_cons, Option.bind_some, Option.map_some, ends, cl_args, List.map_cons, List.map_nil, List.cons_append, List.nil_append, rep_0, rep_s, truD_bl, Bool.not_not, if_true_eq, if_false_eq, isStr, if_true, if_false, Bool.false_eq_true, eq_self, e0, e1]
    refine c_told_by_parts hw hN hR hp (hR r hr).1 ?_
    have e2 : decide (r.2 ∈ N.filter (ptl parts R r.1)) = ptl parts R r.1 r.2 := by
      rw [Bool.eq_iff_iff, decide_eq_true_iff, List.mem_filter]
      exact ⟨fun h => h.2, fun h => ⟨(hR r hr).2, h⟩⟩
    simp only [wp_con, wp_loc, wp_bin, wp_neg, wp_not, wp_and, wp_or, wp_ite, wp_cmp, wp_chain, wp_tup, wp_lst, wp_call, wp_bi, wp_isi, wp_sub, wp_sli, wp_rev, wp_lc, wp_dct, wp_dc, wp_me, wp_glo, wps_nil, wps_cons, wpos_nil, wpos_cons, wpts_nil, wpts_cons, wpo_none, wpo_some, wxs_nil, wxs_cons, wx_set, wx_par, wx_tgt, wx_aug, wx_app, wx_ext, wx_sti, wx_dput, wx_exp, wx_ret, wx_ife, wx_for, wx_brk, wx_cnt, wx_pas, wx_fz, mkW_v, mkW_o, mkW_t, opt_some, asI_int, evV_0, evV_s, evL_0, evL_s, setO_f, setO_T, setO_l, frz_nil, frz_cons, List.getElem?_cons_zero, List.getElem?_cons_succ, List.set_cons_zero, List.set_cons_succ, ownL_0, ownL_s, ownD_0, ownD_s, setO_d, pairUp_nil, pairUp_cons, dPuts_nil, setOs_nil, setOs_cons, bindAll_nil, bindAll_cons, bindT_nm, bindT_tp, bindTs_nil, bindTs_cons, wipeE_nil, wipeE_cons, Option.bind_some, Option.map_some, ends, cl_args, List.map_cons, List.map_nil, List.cons_append, List.nil_append, rep_0, rep_s, truD_bl, Bool.not_not, if_true_eq, if_false_eq, isStr, if_true, if_false, Bool.false_eq_true, eq_self, nin_P, e2]
    cases hb : (!ptl parts R r.1 r.2) with
    | true =>
      rw [hb] at hK'
      simp only [wp_con, wp_loc, wp_bin, wp_neg, wp_not, wp_and, wp_or, wp_ite, wp_cmp, wp_chain, wp_tup, wp_lst, wp_call, wp_bi, wp_isi, wp_sub, wp_sli, wp_rev, wp_lc, wp_dct, wp_dc, wp_me, wp_glo, wps_nil, wps_cons, wpos_nil, wpos_cons, wpts_nil, wpts_cons, wpo_none, wpo_some, wxs_nil, wxs_cons, wx_set, wx_par, wx_tgt, wx_aug, wx_app, wx_ext, wx_sti, wx_dput, wx_exp, wx_ret, wx_ife, wx_for, wx_brk, wx_cnt, wx_pas, wx_fz, mkW_v, mkW_o, mkW_t, opt_some, asI_int, evV_0, evV_s, evL_0, evL_s, setO_f, setO_T, setO_l, frz_nil, frz_cons, List.getElem?_cons_zero, List.getElem?_cons_succ, List.set_cons_zero, List.set_cons_succ, ownL_0, ownL_s, ownD_0, ownD_s, setO_d, pairUp_nil, pairUp_cons, dPuts_nil, setOs_nil, setOs_cons, bindAll_nil, bindAll_cons, bindT_nm, bindT_tp, bindTs_nil, bindTs_cons, wipeE_nil, wipeE_cons, Option.bind_some, Option.map_some, ends, cl_args, List.map_cons, List.map_nil, List.cons_append, List.nil_append, rep_0, rep_s, truD_bl, Bool.not_not, if_true_eq, if_false_eq, isStr, if_true, if_false, Bool.false_eq_true, eq_self, e1_lost_rules]
      exact hK'
    | false =>
      rw [hb] at hK'
      try simp only [wp_con, wp_loc, wp_bin, wp_neg, wp_not, wp_and, wp_or, wp_ite, wp_cmp, wp_chain, wp_tup, wp_lst, wp_call, wp_bi, wp_isi, wp_sub, wp_sli, wp_rev, wp_lc, wp_dct, wp_dc, wp_me, wp_glo, wps_nil, wps_cons, wpos_nil, wpos_cons, wpts_nil, wpts_cons, wpo_none, wpo_some, wxs_nil, wxs_cons, wx_set, wx_par, wx_tgt, wx_aug, wx_app, wx_ext, wx_sti, wx_dput, wx_exp, wx_ret, wx_ife, wx_for, wx_brk, wx_cnt, wx_pas, wx_fz, mkW_v, mkW_o, mkW_t, opt_some, asI_int, evV_0, evV_s, evL_0, evL_s, setO_f, setO_T, setO_l, frz_nil, frz_cons, List.getElem?_cons_zero, List.getElem?_cons_succ, List.set_cons_zero, List.set_cons_succ, ownL_0, ownL_s, ownD_0, ownD_s, setO_d, pairUp_nil, pairUp_cons, dPuts_nil, setOs_nil, setOs_cons, bindAll_nil, bindAll_cons, bindT_nm, bindT_tp, bindTs_nil, bindTs_cons, wipeE_nil, wipeE_cons, Option.bind_some, Option.map_some, ends, cl_args, List.map_cons, List.map_nil, List.cons_append, List.nil_append, rep_0, rep_s, truD_bl, Bool.not_not, if_true_eq, if_false_eq, isStr, if_true, if_false, Bool.false_eq_true, eq_self]
      exact hK'
  · try simp only [wp_con, wp_loc, wp_bin, wp_neg, wp_not, wp_and, wp_or, wp_ite, wp_cmp, wp_chain, wp_tup, wp_lst, wp_call, wp_bi, wp_isi, wp_sub, wp_sli, wp_rev, wp_lc, wp_dct, wp_dc, wp_me, wp_glo, wps_nil, wps_cons, wpos_nil, wpos_cons, wpts_nil, wpts_cons, wpo_none, wpo_some, wxs_nil, wxs_cons, wx_set, wx_par, wx_tgt, wx_aug, wx_app, wx_ext, wx_sti, wx_dput, wx_exp, wx_ret, wx_ife, wx_for, wx_brk, wx_cnt, wx_pas, wx_fz, mkW_v, mkW_o, mkW_t, opt_some, asI_int, evV_0, evV_s, evL_0, evL_s, setO_f, setO_T, setO_l, frz_nil, frz_cons, List.getElem?_cons_zero, List.getElem?_cons_succ, List.set_cons_zero, List.set_cons_succ, ownL_0, ownL_s, ownD_0, ownD_s, setO_d, pairUp_nil, pairUp_cons, dPuts_nil, setOs_nil, setOs_cons, bindAll_nil, bindAll_cons, bindT_nm, bindT_tp, bindTs_nil, bindTs_cons, wipeE_nil, wipeE_cons, Option.bind_some, Option.map_some, ends, cl_args, List.map_cons, List.map_nil, List.cons_append, List.nil_append, rep_0, rep_s, truD_bl, Bool.not_not, if_true_eq, if_false_eq, isStr, if_true, if_false, Bool.false_eq_true, eq_self]
    exact hk
end
end Law

/-! Pk56c: the law's own defs. -/
namespace Law
open Ip
section
variable {wn k : Nat} {K : D → Prop} {R S : List Rl} {X N P M Z : List Nm} {c : Nm} {parts : List (List Nm)}
/-- a comprehension whose test draws -/
theorem wlc_pick {α : Type} {en : α → D} {f : D → (Option D → Prop) → Prop} : ∀ {zs : List α} {K : List D → Prop}, (∀ z ∈ zs, ∀ K' : Option D → Prop, (∀ b : Bool, K' (if b = true then some (en z) else none)) → f (en z) K') → (∀ ys : List α, ys.Sublist zs → K (ys.map en)) → wlc f (zs.map en) K
  | [], K, _, k => k [] .slnil
  | z :: zs, K, hf, k => by
    refine hf z List.mem_cons_self _ fun b => wlc_pick (zs := zs) (fun y hy => hf y (List.mem_cons_of_mem _ hy)) fun ys hs => ?_
    cases b with
    | true => exact k (z :: ys) (hs.cons_cons z)
    | false => exact k ys (hs.cons z)
theorem c_law_rules (hN : NO N) (hn : 0 < N.length) (hk : ∀ R : List Rl, RO N R → R.length ≤ 5 → K (enR R)) : Cl (G wn (k + 2)) 12 [.box, enP N, .int 5] K := by
  have sz : szL = 16777216 := rfl
  have n5 := hN.l5
  refine cl_def rfl rfl rfl ?_
  simp only [u__law_rules, ut1__law_rules, wp_con, wp_loc, wp_bin, wp_neg, wp_not, wp_and, wp_or, wp_ite, wp_cmp, wp_chain, wp_tup, wp_lst, wp_call, wp_bi, wp_isi, wp_sub, wp_sli, wp_rev, wp_lc, wp_dct, wp_dc, wp_me, wp_glo, wps_nil, wps_cons, wpos_nil, wpos_cons, wpts_nil, wpts_cons, wpo_none, wpo_some, wxs_nil, wxs_cons, wx_set, wx_par, wx_tgt, wx_aug, wx_app, wx_ext, wx_sti, wx_dput, wx_exp, wx_ret, wx_ife, wx_for, wx_brk, wx_cnt, wx_pas, wx_fz, mkW_v, mkW_o, mkW_t, opt_some, asI_int, evV_0, evV_s, evL_0, evL_s, setO_f, setO_T, setO_l, frz_nil, frz_cons, List.getElem?_cons_zero, List.getElem?_cons_succ, List.set_cons_zero, List.set_cons_succ, ownL_0, ownL_s, ownD_0, ownD_s, setO_d, pairUp_nil, pairUp_cons, dPuts_nil, setOs_nil, setOs_cons, bindAll_nil, bindAll_cons, bindT_nm, bindT_tp, bindTs_nil, bindTs_cons, wipeE_nil, wipeE_cons, Option.bind_some, Option.map_some, ends, cl_args, List.map_cons, List.map_nil, List.cons_append, List.nil_append, rep_0, rep_s, truD_bl, Bool.not_not, if_true_eq, if_false_eq, isStr, if_true, if_false, Bool.false_eq_true, eq_self, add_int]
  refine c_draw (by decide) (by decide) fun m h0 h1 => ?_
  simp only [wp_con, wp_loc, wp_bin, wp_neg, wp_not, wp_and, wp_or, wp_ite, wp_cmp, wp_chain, wp_tup, wp_lst, wp_call, wp_bi, wp_isi, wp_sub, wp_sli, wp_rev, wp_lc, wp_dct, wp_dc, wp_me, wp_glo, wps_nil, wps_cons, wpos_nil, wpos_cons, wpts_nil, wpts_cons, wpo_none, wpo_some, wxs_nil, wxs_cons, wx_set, wx_par, wx_tgt, wx_aug, wx_app, wx_ext, wx_sti, wx_dput, wx_exp, wx_ret, wx_ife, wx_for, wx_brk, wx_cnt, wx_pas, wx_fz, mkW_v, mkW_o, mkW_t, opt_some, asI_int, evV_0, evV_s, evL_0, evL_s, setO_f, setO_T, setO_l, frz_nil, frz_cons, List.getElem?_cons_zero, List.getElem?_cons_succ, List.set_cons_zero, List.set_cons_succ, ownL_0, ownL_s, ownD_0, ownD_s, setO_d, pairUp_nil, pairUp_cons, dPuts_nil, setOs_nil, setOs_cons, bindAll_nil, bindAll_cons, bindT_nm, bindT_tp, bindTs_nil, bindTs_cons, wipeE_nil, wipeE_cons, Option.bind_some, Option.map_some, ends, cl_args, List.map_cons, List.map_nil, List.cons_append, List.nil_append, rep_0, rep_s, truD_bl, Bool.not_not, if_true_eq, if_false_eq, isStr, if_true, if_false, Bool.false_eq_true, eq_self, rng1_map (show m ≤ 1000000 by omega) (show -1000000 ≤ m by omega)]
  refine for_inv (fun (rest : List Nat) r => ∃ R : List Rl, r = [some (false, .box), some (false, enP N), some (false, .int 5), some (true, .dic (kvE enr (.bl true) R)), none, none, none] ∧ RO N R ∧ R.length + rest.length ≤ 5) ?_ ?_ ?_
  · exact ⟨[], rfl, fun _ h => (List.not_mem_nil h).elim, by simp; omega⟩
  · rintro z rest r ⟨R, rfl, h2, h3⟩
    rw [List.length_cons] at h3
    simp only [wfT, b1__law_rules, wp_con, wp_loc, wp_bin, wp_neg, wp_not, wp_and, wp_or, wp_ite, wp_cmp, wp_chain, wp_tup, wp_lst, wp_call, wp_bi, wp_isi, wp_sub, wp_sli, wp_rev, wp_lc, wp_dct, wp_dc, wp_me, wp_glo, wps_nil, wps_cons, wpos_nil, wpos_cons, wpts_nil, wpts_cons, wpo_none, wpo_some, wxs_nil, wxs_cons, wx_set, wx_par, wx_tgt, wx_aug, wx_app, wx_ext, wx_sti, wx_dput, wx_exp, wx_ret, wx_ife, wx_for, wx_brk, wx_cnt, wx_pas, wx_fz, mkW_v, mkW_o, mkW_t, opt_some, asI_int, evV_0, evV_s, evL_0, evL_s, setO_f, setO_T, setO_l, frz_nil, frz_cons, List.getElem?_cons_zero, List.getElem?_cons_succ, List.set_cons_zero, List.set_cons_succ, ownL_0, ownL_s, ownD_0, ownD_s, setO_d, pairUp_nil, pairUp_cons, dPuts_nil, setOs_nil, setOs_cons, bindAll_nil, bindAll_cons, bindT_nm, bindT_tp, bindTs_nil, bindTs_cons, wipeE_nil, wipeE_cons, Option.bind_some, Option.map_some, ends, cl_args, List.map_cons, List.map_nil, List.cons_append, List.nil_append, rep_0, rep_s, truD_bl, Bool.not_not, if_true_eq, if_false_eq, isStr, if_true, if_false, Bool.false_eq_true, eq_self, len_P]
    refine c_draw (by omega) (by omega) fun d d0 d1 => ?_
    obtain ⟨j, rfl⟩ := Int.eq_ofNat_of_zero_le d0
    have hj : j < N.length := by omega
    have es : subD (enP N) (.int (j : Int)) = some (.str N[j]) := sub_map (List.getElem?_eq_getElem hj)
    simp only [wp_con, wp_loc, wp_bin, wp_neg, wp_not, wp_and, wp_or, wp_ite, wp_cmp, wp_chain, wp_tup, wp_lst, wp_call, wp_bi, wp_isi, wp_sub, wp_sli, wp_rev, wp_lc, wp_dct, wp_dc, wp_me, wp_glo, wps_nil, wps_cons, wpos_nil, wpos_cons, wpts_nil, wpts_cons, wpo_none, wpo_some, wxs_nil, wxs_cons, wx_set, wx_par, wx_tgt, wx_aug, wx_app, wx_ext, wx_sti, wx_dput, wx_exp, wx_ret, wx_ife, wx_for, wx_brk, wx_cnt, wx_pas, wx_fz, mkW_v, mkW_o, mkW_t, opt_some, asI_int, evV_0, evV_s, evL_0, evL_s, setO_f, setO_T, setO_l, frz_nil, frz_cons, List.getElem?_cons_zero, List.getElem?_cons_succ, List.set_cons_zero, List.set_cons_succ, ownL_0, ownL_s, ownD_0, ownD_s, setO_d, pairUp_nil, pairUp_cons, dPuts_nil, setOs_nil, setOs_cons, bindAll_nil, bindAll_cons, bindT_nm, bindT_tp, bindTs_nil, bindTs_cons, wipeE_nil, wipeE_cons, Option.bind_some, Option.map_some, ends, cl_args, List.map_cons, List.map_nil, List.cons_append, List.nil_append, rep_0, rep_s, truD_bl, Bool.not_not, if_true_eq, if_false_eq, isStr, if_true, if_false, Bool.false_eq_true, eq_self, es, b1t1__law_rules, it_P]
    refine wlc_pick (fun x hx K' hK' => ?_) fun ys hs => ?_
    · simp only [wlT, q1__law_rules, wp_con, wp_loc, wp_bin, wp_neg, wp_not, wp_and, wp_or, wp_ite, wp_cmp, wp_chain, wp_tup, wp_lst, wp_call, wp_bi, wp_isi, wp_sub, wp_sli, wp_rev, wp_lc, wp_dct, wp_dc, wp_me, wp_glo, wps_nil, wps_cons, wpos_nil, wpos_cons, wpts_nil, wpts_cons, wpo_none, wpo_some, wxs_nil, wxs_cons, wx_set, wx_par, wx_tgt, wx_aug, wx_app, wx_ext, wx_sti, wx_dput, wx_exp, wx_ret, wx_ife, wx_for, wx_brk, wx_cnt, wx_pas, wx_fz, mkW_v, mkW_o, mkW_t, opt_some, asI_int, evV_0, evV_s, evL_0, evL_s, setO_f, setO_T, setO_l, frz_nil, frz_cons, List.getElem?_cons_zero, List.getElem?_cons_succ, List.set_cons_zero, List.set_cons_succ, ownL_0, ownL_s, ownD_0, ownD_s, setO_d, pairUp_nil, pairUp_cons, dPuts_nil, setOs_nil, setOs_cons, bindAll_nil, bindAll_cons, bindT_nm, bindT_tp, bindTs_nil, bindTs_cons, wipeE_nil, wipeE_cons, Option.bind_some, Option.map_some, ends, cl_args, List.map_cons, List.map_nil, List.cons_append, List.nil_append, rep_0, rep_s, truD_bl, Bool.not_not, if_true_eq, if_false_eq, isStr, if_true, if_false, Bool.false_eq_true, eq_self, ne_str]
      cases hb : (!decide (x = N[j])) with
      | true =>
        simp only [wp_con, wp_loc, wp_bin, wp_neg, wp_not, wp_and, wp_or, wp_ite, wp_cmp, wp_chain, wp_tup, wp_lst, wp_call, wp_bi, wp_isi, wp_sub, wp_sli, wp_rev, wp_lc, wp_dct, wp_dc, wp_me, wp_glo, wps_nil, wps_cons, wpos_nil, wpos_cons, wpts_nil, wpts_cons, wpo_none, wpo_some, wxs_nil, wxs_cons, wx_set, wx_par, wx_tgt, wx_aug, wx_app, wx_ext, wx_sti, wx_dput, wx_exp, wx_ret, wx_ife, wx_for, wx_brk, wx_cnt, wx_pas, wx_fz, mkW_v, mkW_o, mkW_t, opt_some, asI_int, evV_0, evV_s, evL_0, evL_s, setO_f, setO_T, setO_l, frz_nil, frz_cons, List.getElem?_cons_zero, List.getElem?_cons_succ, List.set_cons_zero, List.set_cons_succ, ownL_0, ownL_s, ownD_0, ownD_s, setO_d, pairUp_nil, pairUp_cons, dPuts_nil, setOs_nil, setOs_cons, bindAll_nil, bindAll_cons, bindT_nm, bindT_tp, bindTs_nil, bindTs_cons, wipeE_nil, wipeE_cons, Option.bind_some, Option.map_some, ends, cl_args, List.map_cons, List.map_nil, List.cons_append, List.nil_append, rep_0, rep_s, truD_bl, Bool.not_not, if_true_eq, if_false_eq, isStr, if_true, if_false, Bool.false_eq_true, eq_self]
        refine c_draw (by decide) (by decide) fun e e0 e1 => ?_
        simp only [wp_con, wp_loc, wp_bin, wp_neg, wp_not, wp_and, wp_or, wp_ite, wp_cmp, wp_chain, wp_tup, wp_lst, wp_call, wp_bi, wp_isi, wp_sub, wp_sli, wp_rev, wp_lc, wp_dct, wp_dc, wp_me, wp_glo, wps_nil, wps_cons, wpos_nil, wpos_cons, wpts_nil, wpts_cons, wpo_none, wpo_some, wxs_nil, wxs_cons, wx_set, wx_par, wx_tgt, wx_aug, wx_app, wx_ext, wx_sti, wx_dput, wx_exp, wx_ret, wx_ife, wx_for, wx_brk, wx_cnt, wx_pas, wx_fz, mkW_v, mkW_o, mkW_t, opt_some, asI_int, evV_0, evV_s, evL_0, evL_s, setO_f, setO_T, setO_l, frz_nil, frz_cons, List.getElem?_cons_zero, List.getElem?_cons_succ, List.set_cons_zero, List.set_cons_succ, ownL_0, ownL_s, ownD_0, ownD_s, setO_d, pairUp_nil, pairUp_cons, dPuts_nil, setOs_nil, setOs_cons, bindAll_nil, bindAll_cons, bindT_nm, bindT_tp, bindTs_nil, bindTs_cons, wipeE_nil, wipeE_cons, Option.bind_some, Option.map_some, ends, cl_args, List.map_cons, List.map_nil, List.cons_append, List.nil_append, rep_0, rep_s, truD_bl, Bool.not_not, if_true_eq, if_false_eq, isStr, if_true, if_false, Bool.false_eq_true, eq_self, cmp_eq_int]
        cases hb2 : (e == 0) with
        | true =>
          simp only [wp_con, wp_loc, wp_bin, wp_neg, wp_not, wp_and, wp_or, wp_ite, wp_cmp, wp_chain, wp_tup, wp_lst, wp_call, wp_bi, wp_isi, wp_sub, wp_sli, wp_rev, wp_lc, wp_dct, wp_dc, wp_me, wp_glo, wps_nil, wps_cons, wpos_nil, wpos_cons, wpts_nil, wpts_cons, wpo_none, wpo_some, wxs_nil, wxs_cons, wx_set, wx_par, wx_tgt, wx_aug, wx_app, wx_ext, wx_sti, wx_dput, wx_exp, wx_ret, wx_ife, wx_for, wx_brk, wx_cnt, wx_pas, wx_fz, mkW_v, mkW_o, mkW_t, opt_some, asI_int, evV_0, evV_s, evL_0, evL_s, setO_f, setO_T, setO_l, frz_nil, frz_cons, List.getElem?_cons_zero, List.getElem?_cons_succ, List.set_cons_zero, List.set_cons_succ, ownL_0, ownL_s, ownD_0, ownD_s, setO_d, pairUp_nil, pairUp_cons, dPuts_nil, setOs_nil, setOs_cons, bindAll_nil, bindAll_cons, bindT_nm, bindT_tp, bindTs_nil, bindTs_cons, wipeE_nil, wipeE_cons, Option.bind_some, Option.map_some, ends, cl_args, List.map_cons, List.map_nil, List.cons_append, List.nil_append, rep_0, rep_s, truD_bl, Bool.not_not, if_true_eq, if_false_eq, isStr, if_true, if_false, Bool.false_eq_true, eq_self, e1__law_rules]
          exact hK' true
        | false =>
          simp only [wp_con, wp_loc, wp_bin, wp_neg, wp_not, wp_and, wp_or, wp_ite, wp_cmp, wp_chain, wp_tup, wp_lst, wp_call, wp_bi, wp_isi, wp_sub, wp_sli, wp_rev, wp_lc, wp_dct, wp_dc, wp_me, wp_glo, wps_nil, wps_cons, wpos_nil, wpos_cons, wpts_nil, wpts_cons, wpo_none, wpo_some, wxs_nil, wxs_cons, wx_set, wx_par, wx_tgt, wx_aug, wx_app, wx_ext, wx_sti, wx_dput, wx_exp, wx_ret, wx_ife, wx_for, wx_brk, wx_cnt, wx_pas, wx_fz, mkW_v, mkW_o, mkW_t, opt_some, asI_int, evV_0, evV_s, evL_0, evL_s, setO_f, setO_T, setO_l, frz_nil, frz_cons, List.getElem?_cons_zero, List.getElem?_cons_succ, List.set_cons_zero, List.set_cons_succ, ownL_0, ownL_s, ownD_0, ownD_s, setO_d, pairUp_nil, pairUp_cons, dPuts_nil, setOs_nil, setOs_cons, bindAll_nil, bindAll_cons, bindT_nm, bindT_tp, bindTs_nil, bindTs_cons, wipeE_nil, wipeE_cons, Option.bind_some, Option.map_some, ends, cl_args, List.map_cons, List.map_nil, List.cons_append, List.nil_append, rep_0, rep_s, truD_bl, Bool.not_not, if_true_eq, if_false_eq, isStr, if_true, if_false, Bool.false_eq_true, eq_self]
          exact hK' false
      | false =>
        simp only [wp_con, wp_loc, wp_bin, wp_neg, wp_not, wp_and, wp_or, wp_ite, wp_cmp, wp_chain, wp_tup, wp_lst, wp_call, wp_bi, wp_isi, wp_sub, wp_sli, wp_rev, wp_lc, wp_dct, wp_dc, wp_me, wp_glo, wps_nil, wps_cons, wpos_nil, wpos_cons, wpts_nil, wpts_cons, wpo_none, wpo_some, wxs_nil, wxs_cons, wx_set, wx_par, wx_tgt, wx_aug, wx_app, wx_ext, wx_sti, wx_dput, wx_exp, wx_ret, wx_ife, wx_for, wx_brk, wx_cnt, wx_pas, wx_fz, mkW_v, mkW_o, mkW_t, opt_some, asI_int, evV_0, evV_s, evL_0, evL_s, setO_f, setO_T, setO_l, frz_nil, frz_cons, List.getElem?_cons_zero, List.getElem?_cons_succ, List.set_cons_zero, List.set_cons_succ, ownL_0, ownL_s, ownD_0, ownD_s, setO_d, pairUp_nil, pairUp_cons, dPuts_nil, setOs_nil, setOs_cons, bindAll_nil, bindAll_cons, bindT_nm, bindT_tp, bindTs_nil, bindTs_cons, wipeE_nil, wipeE_cons, Option.bind_some, Option.map_some, ends, cl_args, List.map_cons, List.map_nil, List.cons_append, List.nil_append, rep_0, rep_s, truD_bl, Bool.not_not, if_true_eq, if_false_eq, isStr, if_true, if_false, Bool.false_eq_true, eq_self]
        exact hK' false
    · have ee : D.tup [enP ys, .str N[j]] = enr (ys, N[j]) := rfl
      simp only [wp_con, wp_loc, wp_bin, wp_neg, wp_not, wp_and, wp_or, wp_ite, wp_cmp, wp_chain, wp_tup, wp_lst, wp_call, wp_bi, wp_isi, wp_sub, wp_sli, wp_rev, wp_lc, wp_dct, wp_dc, wp_me, wp_glo, wps_nil, wps_cons, wpos_nil, wpos_cons, wpts_nil, wpts_cons, wpo_none, wpo_some, wxs_nil, wxs_cons, wx_set, wx_par, wx_tgt, wx_aug, wx_app, wx_ext, wx_sti, wx_dput, wx_exp, wx_ret, wx_ife, wx_for, wx_brk, wx_cnt, wx_pas, wx_fz, mkW_v, mkW_o, mkW_t, opt_some, asI_int, evV_0, evV_s, evL_0, evL_s, setO_f, setO_T, setO_l, frz_nil, frz_cons, List.getElem?_cons_zero, List.getElem?_cons_succ, List.set_cons_zero, List.set_cons_succ, ownL_0, ownL_s, ownD_0, ownD_s, setO_d, pairUp_nil, pairUp_cons, dPuts_nil, setOs_nil, setOs_cons, bindAll_nil, bindAll_cons, bindT_nm, bindT_tp, bindTs_nil, bindTs_cons, wipeE_nil, wipeE_cons, Option.bind_some, Option.map_some, ends, cl_args, List.map_cons, List.map_nil, List.cons_append, List.nil_append, rep_0, rep_s, truD_bl, Bool.not_not, if_true_eq, if_false_eq, isStr, if_true, if_false, Bool.false_eq_true, eq_self, tuple_P, ee, kvE_put En_r]
      refine ⟨⟨kvE_ok En_r, by rw [kvE_len]; omega⟩, _, ?_, addE R (ys, N[j]), rfl, fun r hr => ?_, ?_⟩
      · (apply LeI.le; repeat (first | exact LeI.nil | apply LeI.s | apply LeI.n | apply LeI.r))
      · rcases addE_mem.mp hr with q | rfl
        · exact h2 r q
        · exact ⟨hs, List.getElem_mem hj⟩
      · have := addE_len (l := R) (s := (ys, N[j]))
        omega
  · rintro r ⟨R, rfl, h2, h3⟩
    simp only [wp_con, wp_loc, wp_bin, wp_neg, wp_not, wp_and, wp_or, wp_ite, wp_cmp, wp_chain, wp_tup, wp_lst, wp_call, wp_bi, wp_isi, wp_sub, wp_sli, wp_rev, wp_lc, wp_dct, wp_dc, wp_me, wp_glo, wps_nil, wps_cons, wpos_nil, wpos_cons, wpts_nil, wpts_cons, wpo_none, wpo_some, wxs_nil, wxs_cons, wx_set, wx_par, wx_tgt, wx_aug, wx_app, wx_ext, wx_sti, wx_dput, wx_exp, wx_ret, wx_ife, wx_for, wx_brk, wx_cnt, wx_pas, wx_fz, mkW_v, mkW_o, mkW_t, opt_some, asI_int, evV_0, evV_s, evL_0, evL_s, setO_f, setO_T, setO_l, frz_nil, frz_cons, List.getElem?_cons_zero, List.getElem?_cons_succ, List.set_cons_zero, List.set_cons_succ, ownL_0, ownL_s, ownD_0, ownD_s, setO_d, pairUp_nil, pairUp_cons, dPuts_nil, setOs_nil, setOs_cons, bindAll_nil, bindAll_cons, bindT_nm, bindT_tp, bindTs_nil, bindTs_cons, wipeE_nil, wipeE_cons, Option.bind_some, Option.map_some, ends, cl_args, List.map_cons, List.map_nil, List.cons_append, List.nil_append, rep_0, rep_s, truD_bl, Bool.not_not, if_true_eq, if_false_eq, isStr, if_true, if_false, Bool.false_eq_true, eq_self, ut2__law_rules, sorted_dic (sortable_tc En_r R fun a _ => isTupC_r a)]
    refine hk (srt enr R) (fun r hr => h2 r (mem_srt.mp hr)) ?_
    rw [srt_len]
    simpa using h3
noncomputable def wholes (N : List Nm) (R : List Rl) : List (List Nm) := (ap N).filter fun W => !R.any fun r => !decide (r.2 ∈ W) && r.1.all fun x => decide (x ∈ W)
theorem mem_wholes {W : List Nm} : W ∈ wholes N R ↔ W.Sublist N ∧ Cls R W := by
  unfold wholes
  rw [List.mem_filter, mem_ap, Bool.not_eq_true', List.any_eq_false]
  refine and_congr_right fun _ => forall_congr' fun r => forall_congr' fun hr => ?_
  rw [Bool.and_eq_true, List.all_eq_true, Bool.not_eq_true', decide_eq_false_iff_not]
  constructor
  · intro h hs
    by_cases q : r.2 ∈ W
    · exact q
    · exact absurd ⟨q, fun x hx => by simpa using hs hx⟩ h
  · rintro h ⟨h1, h2⟩
    exact h1 (h fun x hx => by simpa using h2 x hx)
theorem c_law_whole (hN : NO N) (hk : K (.lst ((wholes N R).map enP))) : Cl (G wn (k + 2)) 14 [enP N, enR R] K := by
  refine cl_def rfl rfl rfl ?_
  simp only [u__law_whole, wp_con, wp_loc, wp_bin, wp_neg, wp_not, wp_and, wp_or, wp_ite, wp_cmp, wp_chain, wp_tup, wp_lst, wp_call, wp_bi, wp_isi, wp_sub, wp_sli, wp_rev, wp_lc, wp_dct, wp_dc, wp_me, wp_glo, wps_nil, wps_cons, wpos_nil, wpos_cons, wpts_nil, wpts_cons, wpo_none, wpo_some, wxs_nil, wxs_cons, wx_set, wx_par, wx_tgt, wx_aug, wx_app, wx_ext, wx_sti, wx_dput, wx_exp, wx_ret, wx_ife, wx_for, wx_brk, wx_cnt, wx_pas, wx_fz, mkW_v, mkW_o, mkW_t, opt_some, asI_int, evV_0, evV_s, evL_0, evL_s, setO_f, setO_T, setO_l, frz_nil, frz_cons, List.getElem?_cons_zero, List.getElem?_cons_succ, List.set_cons_zero, List.set_cons_succ, ownL_0, ownL_s, ownD_0, ownD_s, setO_d, pairUp_nil, pairUp_cons, dPuts_nil, setOs_nil, setOs_cons, bindAll_nil, bindAll_cons, bindT_nm, bindT_tp, bindTs_nil, bindTs_cons, wipeE_nil, wipeE_cons, Option.bind_some, Option.map_some, ends, cl_args, List.map_cons, List.map_nil, List.cons_append, List.nil_append, rep_0, rep_s, truD_bl, Bool.not_not, if_true_eq, if_false_eq, isStr, if_true, if_false, Bool.false_eq_true, eq_self]
  refine c_law_parts hN (List.Sublist.refl N) ?_
  simp only [itL]
  refine wlc_filter (fun W => !R.any fun r => !decide (r.2 ∈ W) && r.1.all fun x => decide (x ∈ W)) enP (fun W hW K' hK' => ?_) hk
  simp only [wlT, q1__law_whole, wp_con, wp_loc, wp_bin, wp_neg, wp_not, wp_and, wp_or, wp_ite, wp_cmp, wp_chain, wp_tup, wp_lst, wp_call, wp_bi, wp_isi, wp_sub, wp_sli, wp_rev, wp_lc, wp_dct, wp_dc, wp_me, wp_glo, wps_nil, wps_cons, wpos_nil, wpos_cons, wpts_nil, wpts_cons, wpo_none, wpo_some, wxs_nil, wxs_cons, wx_set, wx_par, wx_tgt, wx_aug, wx_app, wx_ext, wx_sti, wx_dput, wx_exp, wx_ret, wx_ife, wx_for, wx_brk, wx_cnt, wx_pas, wx_fz, mkW_v, mkW_o, mkW_t, opt_some, asI_int, evV_0, evV_s, evL_0, evL_s, setO_f, setO_T, setO_l, frz_nil, frz_cons, List.getElem?_cons_zero, List.getElem?_cons_succ, List.set_cons_zero, List.set_cons_succ, ownL_0, ownL_s, ownD_0, ownD_s, setO_d, pairUp_nil, pairUp_cons, dPuts_nil, setOs_nil, setOs_cons, bindAll_nil, bindAll_cons, bindT_nm, bindT_tp, bindTs_nil, bindTs_cons, wipeE_nil, wipeE_cons, Option.bind_some, Option.map_some, ends, cl_args, List.map_cons, List.map_nil, List.cons_append, List.nil_append, rep_0, rep_s, truD_bl, Bool.not_not, if_true_eq, if_false_eq, isStr, if_true, if_false, Bool.false_eq_true, eq_self, it_R]
  refine wlc_any (fun r => !decide (r.2 ∈ W) && r.1.all fun x => decide (x ∈ W)) (fun r hr K' hK' => ?_) ?_
  · simp only [wlT, e2__law_whole, enr, wp_con, wp_loc, wp_bin, wp_neg, wp_not, wp_and, wp_or, wp_ite, wp_cmp, wp_chain, wp_tup, wp_lst, wp_call, wp_bi, wp_isi, wp_sub, wp_sli, wp_rev, wp_lc, wp_dct, wp_dc, wp_me, wp_glo, wps_nil, wps_cons, wpos_nil, wpos_cons, wpts_nil, wpts_cons, wpo_none, wpo_some, wxs_nil, wxs_cons, wx_set, wx_par, wx_tgt, wx_aug, wx_app, wx_ext, wx_sti, wx_dput, wx_exp, wx_ret, wx_ife, wx_for, wx_brk, wx_cnt, wx_pas, wx_fz, mkW_v, mkW_o, mkW_t, opt_some, asI_int, evV_0, evV_s, evL_0, evL_s, setO_f, setO_T, setO_l, frz_nil, frz_cons, List.getElem?_cons_zero, List.getElem?_cons_succ, List.set_cons_zero, List.set_cons_succ, ownL_0, ownL_s, ownD_0, ownD_s, setO_d, pairUp_nil, pairUp_cons, dPuts_nil, setOs_nil, setOs_cons, bindAll_nil, bindAll_cons, bindT_nm, bindT_tp, bindTs_nil, bindTs_cons, wipeE_nil, wipeE_cons, Option.bind_some, Option.map_some, ends, cl_args, List.map_cons, List.map_nil, List.cons_append, List.nil_append, rep_0, rep_s, truD_bl, Bool.not_not, if_true_eq, if_false_eq, isStr, if_true, if_false, Bool.false_eq_true, eq_self, nin_P]
    cases hb : (!decide (r.2 ∈ W)) with
    | false =>
      rw [hb, Bool.false_and] at hK'
      simp only [wp_con, wp_loc, wp_bin, wp_neg, wp_not, wp_and, wp_or, wp_ite, wp_cmp, wp_chain, wp_tup, wp_lst, wp_call, wp_bi, wp_isi, wp_sub, wp_sli, wp_rev, wp_lc, wp_dct, wp_dc, wp_me, wp_glo, wps_nil, wps_cons, wpos_nil, wpos_cons, wpts_nil, wpts_cons, wpo_none, wpo_some, wxs_nil, wxs_cons, wx_set, wx_par, wx_tgt, wx_aug, wx_app, wx_ext, wx_sti, wx_dput, wx_exp, wx_ret, wx_ife, wx_for, wx_brk, wx_cnt, wx_pas, wx_fz, mkW_v, mkW_o, mkW_t, opt_some, asI_int, evV_0, evV_s, evL_0, evL_s, setO_f, setO_T, setO_l, frz_nil, frz_cons, List.getElem?_cons_zero, List.getElem?_cons_succ, List.set_cons_zero, List.set_cons_succ, ownL_0, ownL_s, ownD_0, ownD_s, setO_d, pairUp_nil, pairUp_cons, dPuts_nil, setOs_nil, setOs_cons, bindAll_nil, bindAll_cons, bindT_nm, bindT_tp, bindTs_nil, bindTs_cons, wipeE_nil, wipeE_cons, Option.bind_some, Option.map_some, ends, cl_args, List.map_cons, List.map_nil, List.cons_append, List.nil_append, rep_0, rep_s, truD_bl, Bool.not_not, if_true_eq, if_false_eq, isStr, if_true, if_false, Bool.false_eq_true, eq_self]
      exact hK'
    | true =>
      rw [hb, Bool.true_and] at hK'
      simp only [wp_con, wp_loc, wp_bin, wp_neg, wp_not, wp_and, wp_or, wp_ite, wp_cmp, wp_chain, wp_tup, wp_lst, wp_call, wp_bi, wp_isi, wp_sub, wp_sli, wp_rev, wp_lc, wp_dct, wp_dc, wp_me, wp_glo, wps_nil, wps_cons, wpos_nil, wpos_cons, wpts_nil, wpts_cons, wpo_none, wpo_some, wxs_nil, wxs_cons, wx_set, wx_par, wx_tgt, wx_aug, wx_app, wx_ext, wx_sti, wx_dput, wx_exp, wx_ret, wx_ife, wx_for, wx_brk, wx_cnt, wx_pas, wx_fz, mkW_v, mkW_o, mkW_t, opt_some, asI_int, evV_0, evV_s, evL_0, evL_s, setO_f, setO_T, setO_l, frz_nil, frz_cons, List.getElem?_cons_zero, List.getElem?_cons_succ, List.set_cons_zero, List.set_cons_succ, ownL_0, ownL_s, ownD_0, ownD_s, setO_d, pairUp_nil, pairUp_cons, dPuts_nil, setOs_nil, setOs_cons, bindAll_nil, bindAll_cons, bindT_nm, bindT_tp, bindTs_nil, bindTs_cons, wipeE_nil, wipeE_cons, Option.bind_some, Option.map_some, ends, cl_args, List.map_cons, List.map_nil, List.cons_append, List.nil_append, rep_0, rep_s, truD_bl, Bool.not_not, if_true_eq, if_false_eq, isStr, if_true, if_false, Bool.false_eq_true, eq_self, it_P]
      refine wlc_all (fun x => decide (x ∈ W)) (fun x hx K' hK' => ?_) ?_
      · simp only [wlT, e1__law_whole, wp_con, wp_loc, wp_bin, wp_neg, wp_not, wp_and, wp_or, wp_ite, wp_cmp, wp_chain, wp_tup, wp_lst, wp_call, wp_bi, wp_isi, wp_sub, wp_sli, wp_rev, wp_lc, wp_dct, wp_dc, wp_me, wp_glo, wps_nil, wps_cons, wpos_nil, wpos_cons, wpts_nil, wpts_cons, wpo_none, wpo_some, wxs_nil, wxs_cons, wx_set, wx_par, wx_tgt, wx_aug, wx_app, wx_ext, wx_sti, wx_dput, wx_exp, wx_ret, wx_ife, wx_for, wx_brk, wx_cnt, wx_pas, wx_fz, mkW_v, mkW_o, mkW_t, opt_some, asI_int, evV_0, evV_s, evL_0, evL_s, setO_f, setO_T, setO_l, frz_nil, frz_cons, List.getElem?_cons_zero, List.getElem?_cons_succ, List.set_cons_zero, List.set_cons_succ, ownL_0, ownL_s, ownD_0, ownD_s, setO_d, pairUp_nil, pairUp_cons, dPuts_nil, setOs_nil, setOs_cons, bindAll_nil, bindAll_cons, bindT_nm, bindT_tp, bindTs_nil, bindTs_cons, wipeE_nil, wipeE_cons, Option.bind_some, Option.map_some, ends, cl_args, List.map_cons, List.map_nil, List.cons_append, List.nil_append, rep_0, rep_s, truD_bl, Bool.not_not, if_true_eq, if_false_eq, isStr, if_true, if_false, Bool.false_eq_true, eq_self, in_P]
        exact hK'
      · try simp only [wp_con, wp_loc, wp_bin, wp_neg, wp_not, wp_and, wp_or, wp_ite, wp_cmp, wp_chain, wp_tup, wp_lst, wp_call, wp_bi, wp_isi, wp_sub, wp_sli, wp_rev, wp_lc, wp_dct, wp_dc, wp_me, wp_glo, wps_nil, wps_cons, wpos_nil, wpos_cons, wpts_nil, wpts_cons, wpo_none, wpo_some, wxs_nil, wxs_cons, wx_set, wx_par, wx_tgt, wx_aug, wx_app, wx_ext, wx_sti, wx_dput, wx_exp, wx_ret, wx_ife, wx_for, wx_brk, wx_cnt, wx_pas, wx_fz, mkW_v, mkW_o, mkW_t, opt_some, asI_int, evV_0, evV_s, evL_0, evL_s, setO_f, setO_T, setO_l, frz_nil, frz_cons, List.getElem?_cons_zero, List.getElem?_cons_succ, List.set_cons_zero, List.set_cons_succ, ownL_0, ownL_s, ownD_0, ownD_s, setO_d, pairUp_nil, pairUp_cons, dPuts_nil, setOs_nil, setOs_cons, bindAll_nil, bindAll_cons, bindT_nm, bindT_tp, bindTs_nil, bindTs_cons, wipeE_nil, wipeE_cons, Option.bind_some, Option.map_some, ends, cl_args, List.map_cons, List.map_nil, List.cons_append, List.nil_append, rep_0, rep_s, truD_bl, Bool.not_not, if_true_eq, if_false_eq, isStr, if_true, if_false, Bool.false_eq_true, eq_self]
        exact hK'
  · simp only [wp_con, wp_loc, wp_bin, wp_neg, wp_not, wp_and, wp_or, wp_ite, wp_cmp, wp_chain, wp_tup, wp_lst, wp_call, wp_bi, wp_isi, wp_sub, wp_sli, wp_rev, wp_lc, wp_dct, wp_dc, wp_me, wp_glo, wps_nil, wps_cons, wpos_nil, wpos_cons, wpts_nil, wpts_cons, wpo_none, wpo_some, wxs_nil, wxs_cons, wx_set, wx_par, wx_tgt, wx_aug, wx_app, wx_ext, wx_sti, wx_dput, wx_exp, wx_ret, wx_ife, wx_for, wx_brk, wx_cnt, wx_pas, wx_fz, mkW_v, mkW_o, mkW_t, opt_some, asI_int, evV_0, evV_s, evL_0, evL_s, setO_f, setO_T, setO_l, frz_nil, frz_cons, List.getElem?_cons_zero, List.getElem?_cons_succ, List.set_cons_zero, List.set_cons_succ, ownL_0, ownL_s, ownD_0, ownD_s, setO_d, pairUp_nil, pairUp_cons, dPuts_nil, setOs_nil, setOs_cons, bindAll_nil, bindAll_cons, bindT_nm, bindT_tp, bindTs_nil, bindTs_cons, wipeE_nil, wipeE_cons, Option.bind_some, Option.map_some, ends, cl_args, List.map_cons, List.map_nil, List.cons_append, List.nil_append, rep_0, rep_s, truD_bl, Bool.not_not, if_true_eq, if_false_eq, isStr, if_true, if_false, Bool.false_eq_true, eq_self]
    cases hb : (!R.any fun r => !decide (r.2 ∈ W) && r.1.all fun x => decide (x ∈ W)) with
    | true =>
      rw [hb] at hK'
      simp only [wp_con, wp_loc, wp_bin, wp_neg, wp_not, wp_and, wp_or, wp_ite, wp_cmp, wp_chain, wp_tup, wp_lst, wp_call, wp_bi, wp_isi, wp_sub, wp_sli, wp_rev, wp_lc, wp_dct, wp_dc, wp_me, wp_glo, wps_nil, wps_cons, wpos_nil, wpos_cons, wpts_nil, wpts_cons, wpo_none, wpo_some, wxs_nil, wxs_cons, wx_set, wx_par, wx_tgt, wx_aug, wx_app, wx_ext, wx_sti, wx_dput, wx_exp, wx_ret, wx_ife, wx_for, wx_brk, wx_cnt, wx_pas, wx_fz, mkW_v, mkW_o, mkW_t, opt_some, asI_int, evV_0, evV_s, evL_0, evL_s, setO_f, setO_T, setO_l, frz_nil, frz_cons, List.getElem?_cons_zero, List.getElem?_cons_succ, List.set_cons_zero, List.set_cons_succ, ownL_0, ownL_s, ownD_0, ownD_s, setO_d, pairUp_nil, pairUp_cons, dPuts_nil, setOs_nil, setOs_cons, bindAll_nil, bindAll_cons, bindT_nm, bindT_tp, bindTs_nil, bindTs_cons, wipeE_nil, wipeE_cons, Option.bind_some, Option.map_some, ends, cl_args, List.map_cons, List.map_nil, List.cons_append, List.nil_append, rep_0, rep_s, truD_bl, Bool.not_not, if_true_eq, if_false_eq, isStr, if_true, if_false, Bool.false_eq_true, eq_self, e3__law_whole]
      exact hK'
    | false =>
      rw [hb] at hK'
      simp only [wp_con, wp_loc, wp_bin, wp_neg, wp_not, wp_and, wp_or, wp_ite, wp_cmp, wp_chain, wp_tup, wp_lst, wp_call, wp_bi, wp_isi, wp_sub, wp_sli, wp_rev, wp_lc, wp_dct, wp_dc, wp_me, wp_glo, wps_nil, wps_cons, wpos_nil, wpos_cons, wpts_nil, wpts_cons, wpo_none, wpo_some, wxs_nil, wxs_cons, wx_set, wx_par, wx_tgt, wx_aug, wx_app, wx_ext, wx_sti, wx_dput, wx_exp, wx_ret, wx_ife, wx_for, wx_brk, wx_cnt, wx_pas, wx_fz, mkW_v, mkW_o, mkW_t, opt_some, asI_int, evV_0, evV_s, evL_0, evL_s, setO_f, setO_T, setO_l, frz_nil, frz_cons, List.getElem?_cons_zero, List.getElem?_cons_succ, List.set_cons_zero, List.set_cons_succ, ownL_0, ownL_s, ownD_0, ownD_s, setO_d, pairUp_nil, pairUp_cons, dPuts_nil, setOs_nil, setOs_cons, bindAll_nil, bindAll_cons, bindT_nm, bindT_tp, bindTs_nil, bindTs_cons, wipeE_nil, wipeE_cons, Option.bind_some, Option.map_some, ends, cl_args, List.map_cons, List.map_nil, List.cons_append, List.nil_append, rep_0, rep_s, truD_bl, Bool.not_not, if_true_eq, if_false_eq, isStr, if_true, if_false, Bool.false_eq_true, eq_self]
      exact hK'
def tells (S : List (List Nm)) (X : List Nm) (c : Nm) : Bool := (S.filter fun W => X.all fun x => decide (x ∈ W)).all fun W => decide (c ∈ W)
theorem tells_iff {S : List (List Nm)} : tells S X c = true ↔ ∀ W ∈ S, X ⊆ W → c ∈ W := by
  unfold tells
  rw [List.all_eq_true]
  constructor
  · intro h W hW hs
    have := h W (List.mem_filter.mpr ⟨hW, List.all_eq_true.mpr fun x hx => by simpa using hs hx⟩)
    simpa using this
  · intro h W hW
    obtain ⟨h1, h2⟩ := List.mem_filter.mp hW
    have := h W h1 fun x hx => by simpa using List.all_eq_true.mp h2 x hx
    simpa using this
theorem c_law_tells {S : List (List Nm)} (hk : K (.bl (tells S X c))) : Cl (G wn (k + 1)) 15 [.lst (S.map enP), enP X, .str c] K := by
  refine cl_def rfl rfl rfl ?_
  simp only [u__law_tells, wp_con, wp_loc, wp_bin, wp_neg, wp_not, wp_and, wp_or, wp_ite, wp_cmp, wp_chain, wp_tup, wp_lst, wp_call, wp_bi, wp_isi, wp_sub, wp_sli, wp_rev, wp_lc, wp_dct, wp_dc, wp_me, wp_glo, wps_nil, wps_cons, wpos_nil, wpos_cons, wpts_nil, wpts_cons, wpo_none, wpo_some, wxs_nil, wxs_cons, wx_set, wx_par, wx_tgt, wx_aug, wx_app, wx_ext, wx_sti, wx_dput, wx_exp, wx_ret, wx_ife, wx_for, wx_brk, wx_cnt, wx_pas, wx_fz, mkW_v, mkW_o, mkW_t, opt_some, asI_int, evV_0, evV_s, evL_0, evL_s, setO_f, setO_T, setO_l, frz_nil, frz_cons, List.getElem?_cons_zero, List.getElem?_cons_succ, List.set_cons_zero, List.set_cons_succ, ownL_0, ownL_s, ownD_0, ownD_s, setO_d, pairUp_nil, pairUp_cons, dPuts_nil, setOs_nil, setOs_cons, bindAll_nil, bindAll_cons, bindT_nm, bindT_tp, bindTs_nil, bindTs_cons, wipeE_nil, wipeE_cons, Option.bind_some, Option.map_some, ends, cl_args, List.map_cons, List.map_nil, List.cons_append, List.nil_append, rep_0, rep_s, truD_bl, Bool.not_not, if_true_eq, if_false_eq, isStr, if_true, if_false, Bool.false_eq_true, eq_self, itL]
  refine wlc_filter (fun W => X.all fun x => decide (x ∈ W)) (fun W => .bl (decide (c ∈ W))) (fun W hW K' hK' => ?_) ?_
  · simp only [wlT, q1__law_tells, wp_con, wp_loc, wp_bin, wp_neg, wp_not, wp_and, wp_or, wp_ite, wp_cmp, wp_chain, wp_tup, wp_lst, wp_call, wp_bi, wp_isi, wp_sub, wp_sli, wp_rev, wp_lc, wp_dct, wp_dc, wp_me, wp_glo, wps_nil, wps_cons, wpos_nil, wpos_cons, wpts_nil, wpts_cons, wpo_none, wpo_some, wxs_nil, wxs_cons, wx_set, wx_par, wx_tgt, wx_aug, wx_app, wx_ext, wx_sti, wx_dput, wx_exp, wx_ret, wx_ife, wx_for, wx_brk, wx_cnt, wx_pas, wx_fz, mkW_v, mkW_o, mkW_t, opt_some, asI_int, evV_0, evV_s, evL_0, evL_s, setO_f, setO_T, setO_l, frz_nil, frz_cons, List.getElem?_cons_zero, List.getElem?_cons_succ, List.set_cons_zero, List.set_cons_succ, ownL_0, ownL_s, ownD_0, ownD_s, setO_d, pairUp_nil, pairUp_cons, dPuts_nil, setOs_nil, setOs_cons, bindAll_nil, bindAll_cons, bindT_nm, bindT_tp, bindTs_nil, bindTs_cons, wipeE_nil, wipeE_cons, Option.bind_some, Option.map_some, ends, cl_args, List.map_cons, List.map_nil, List.cons_append, List.nil_append, rep_0, rep_s, truD_bl, Bool.not_not, if_true_eq, if_false_eq, isStr, if_true, if_false, Bool.false_eq_true, eq_self, it_P]
    refine wlc_all (fun x => decide (x ∈ W)) (fun x hx K' hK' => ?_) ?_
    · simp only [wlT, e1__law_tells, wp_con, wp_loc, wp_bin, wp_neg, wp_not, wp_and, wp_or, wp_ite, wp_cmp, wp_chain, wp_tup, wp_lst, wp_call, wp_bi, wp_isi, wp_sub, wp_sli, wp_rev, wp_lc, wp_dct, wp_dc, wp_me, wp_glo, wps_nil, wps_cons, wpos_nil, wpos_cons, wpts_nil, wpts_cons, wpo_none, wpo_some, wxs_nil, wxs_cons, wx_set, wx_par, wx_tgt, wx_aug, wx_app, wx_ext, wx_sti, wx_dput, wx_exp, wx_ret, wx_ife, wx_for, wx_brk, wx_cnt, wx_pas, wx_fz, mkW_v, mkW_o, mkW_t, opt_some, asI_int, evV_0, evV_s, evL_0, evL_s, setO_f, setO_T, setO_l, frz_nil, frz_cons, List.getElem?_cons_zero, List.getElem?_cons_succ, List.set_cons_zero, List.set_cons_succ, ownL_0, ownL_s, ownD_0, ownD_s, setO_d, pairUp_nil, pairUp_cons, dPuts_nil, setOs_nil, setOs_cons, bindAll_nil, bindAll_cons, bindT_nm, bindT_tp, bindTs_nil, bindTs_cons, wipeE_nil, wipeE_cons, Option.bind_some, Option.map_some, ends, cl_args, List.map_cons, List.map_nil, List.cons_append, List.nil_append, rep_0, rep_s, truD_bl, Bool.not_not, if_true_eq, if_false_eq, isStr, if_true, if_false, Bool.false_eq_true, eq_self, in_P]
      exact hK'
    · simp only [wp_con, wp_loc, wp_bin, wp_neg, wp_not, wp_and, wp_or, wp_ite, wp_cmp, wp_chain, wp_tup, wp_lst, wp_call, wp_bi, wp_isi, wp_sub, wp_sli, wp_rev, wp_lc, wp_dct, wp_dc, wp_me, wp_glo, wps_nil, wps_cons, wpos_nil, wpos_cons, wpts_nil, wpts_cons, wpo_none, wpo_some, wxs_nil, wxs_cons, wx_set, wx_par, wx_tgt, wx_aug, wx_app, wx_ext, wx_sti, wx_dput, wx_exp, wx_ret, wx_ife, wx_for, wx_brk, wx_cnt, wx_pas, wx_fz, mkW_v, mkW_o, mkW_t, opt_some, asI_int, evV_0, evV_s, evL_0, evL_s, setO_f, setO_T, setO_l, frz_nil, frz_cons, List.getElem?_cons_zero, List.getElem?_cons_succ, List.set_cons_zero, List.set_cons_succ, ownL_0, ownL_s, ownD_0, ownD_s, setO_d, pairUp_nil, pairUp_cons, dPuts_nil, setOs_nil, setOs_cons, bindAll_nil, bindAll_cons, bindT_nm, bindT_tp, bindTs_nil, bindTs_cons, wipeE_nil, wipeE_cons, Option.bind_some, Option.map_some, ends, cl_args, List.map_cons, List.map_nil, List.cons_append, List.nil_append, rep_0, rep_s, truD_bl, Bool.not_not, if_true_eq, if_false_eq, isStr, if_true, if_false, Bool.false_eq_true, eq_self]
      cases hb : (X.all fun x => decide (x ∈ W)) with
      | true =>
        rw [hb] at hK'
        simp only [wp_con, wp_loc, wp_bin, wp_neg, wp_not, wp_and, wp_or, wp_ite, wp_cmp, wp_chain, wp_tup, wp_lst, wp_call, wp_bi, wp_isi, wp_sub, wp_sli, wp_rev, wp_lc, wp_dct, wp_dc, wp_me, wp_glo, wps_nil, wps_cons, wpos_nil, wpos_cons, wpts_nil, wpts_cons, wpo_none, wpo_some, wxs_nil, wxs_cons, wx_set, wx_par, wx_tgt, wx_aug, wx_app, wx_ext, wx_sti, wx_dput, wx_exp, wx_ret, wx_ife, wx_for, wx_brk, wx_cnt, wx_pas, wx_fz, mkW_v, mkW_o, mkW_t, opt_some, asI_int, evV_0, evV_s, evL_0, evL_s, setO_f, setO_T, setO_l, frz_nil, frz_cons, List.getElem?_cons_zero, List.getElem?_cons_succ, List.set_cons_zero, List.set_cons_succ, ownL_0, ownL_s, ownD_0, ownD_s, setO_d, pairUp_nil, pairUp_cons, dPuts_nil, setOs_nil, setOs_cons, bindAll_nil, bindAll_cons, bindT_nm, bindT_tp, bindTs_nil, bindTs_cons, wipeE_nil, wipeE_cons, Option.bind_some, Option.map_some, ends, cl_args, List.map_cons, List.map_nil, List.cons_append, List.nil_append, rep_0, rep_s, truD_bl, Bool.not_not, if_true_eq, if_false_eq, isStr, if_true, if_false, Bool.false_eq_true, eq_self, e2__law_tells, in_P]
        exact hK'
      | false =>
        rw [hb] at hK'
        simp only [wp_con, wp_loc, wp_bin, wp_neg, wp_not, wp_and, wp_or, wp_ite, wp_cmp, wp_chain, wp_tup, wp_lst, wp_call, wp_bi, wp_isi, wp_sub, wp_sli, wp_rev, wp_lc, wp_dct, wp_dc, wp_me, wp_glo, wps_nil, wps_cons, wpos_nil, wpos_cons, wpts_nil, wpts_cons, wpo_none, wpo_some, wxs_nil, wxs_cons, wx_set, wx_par, wx_tgt, wx_aug, wx_app, wx_ext, wx_sti, wx_dput, wx_exp, wx_ret, wx_ife, wx_for, wx_brk, wx_cnt, wx_pas, wx_fz, mkW_v, mkW_o, mkW_t, opt_some, asI_int, evV_0, evV_s, evL_0, evL_s, setO_f, setO_T, setO_l, frz_nil, frz_cons, List.getElem?_cons_zero, List.getElem?_cons_succ, List.set_cons_zero, List.set_cons_succ, ownL_0, ownL_s, ownD_0, ownD_s, setO_d, pairUp_nil, pairUp_cons, dPuts_nil, setOs_nil, setOs_cons, bindAll_nil, bindAll_cons, bindT_nm, bindT_tp, bindTs_nil, bindTs_cons, wipeE_nil, wipeE_cons, Option.bind_some, Option.map_some, ends, cl_args, List.map_cons, List.map_nil, List.cons_append, List.nil_append, rep_0, rep_s, truD_bl, Bool.not_not, if_true_eq, if_false_eq, isStr, if_true, if_false, Bool.false_eq_true, eq_self]
        exact hK'
  · rw [bi_all]
    exact hk
/-! ### what is seen -/
noncomputable def seenB (N : List Nm) (R : List Rl) (parts : List (List Nm)) (Z : List Nm) : Bool := parts.all fun P => (wholes N R).any fun W => decide (inP P W = inP P Z)
theorem seenB_iff (hN : NO N) (hR : RO N R) (hZ : Z.Sublist N) : seenB N R parts Z = true ↔ SeenP parts R Z := by
  unfold seenB
  rw [List.all_eq_true]
  refine forall_congr' fun P => forall_congr' fun hP => ?_
  rw [List.any_eq_true]
  constructor
  · rintro ⟨W, hW, e⟩ c hc t
    have e := of_decide_eq_true e
    obtain ⟨w1, w2⟩ := mem_wholes.mp hW
    rw [← e] at t
    have : c ∈ inP P W := mem_inP.mpr ⟨t W (fun x hx => (mem_inP.mp hx).1) w2, hc⟩
    rw [e] at this
    exact (mem_inP.mp this).1
  · intro h
    refine ⟨N.filter (tl R (inP P Z)), mem_wholes.mpr ⟨List.filter_sublist .., cls_tl hR⟩, decide_eq_true ?_⟩
    refine sub_ext hN.nd ((List.filter_sublist ..).trans (List.filter_sublist ..)) ((List.filter_sublist ..).trans hZ) fun c => ?_
    rw [mem_inP, mem_inP, List.mem_filter, tl_iff]
    constructor
    · rintro ⟨⟨h1, h2⟩, h3⟩
      exact ⟨h c h3 h2, h3⟩
    · rintro ⟨h1, h2⟩
      exact ⟨⟨hZ.subset h1, told_mem (mem_inP.mpr ⟨h1, h2⟩)⟩, h2⟩
noncomputable def seen (N : List Nm) (R : List Rl) (parts : List (List Nm)) : List (List Nm) := (ap N).filter (seenB N R parts)
theorem mem_seen (hN : NO N) (hR : RO N R) : Z ∈ seen N R parts ↔ Z.Sublist N ∧ SeenP parts R Z := by
  unfold seen
  rw [List.mem_filter, mem_ap]
  exact and_congr_right fun h => seenB_iff hN hR h
theorem tells_seen (hN : NO N) (hR : RO N R) (hp : ∀ P ∈ parts, P.Sublist N) (hX : X.Sublist N) (hc : c ∈ N) : tells (seen N R parts) X c = ptl parts R X c := by
  rw [Bool.eq_iff_iff, tells_iff, ptl_iff]
  constructor
  · intro h Z h1 h2
    have := h (res N Z) ((mem_seen hN hR).mpr ⟨res_sub, res_seen (fun P hP => (hp P hP).subset) h2⟩) fun x hx => mem_res.mpr ⟨hX.subset hx, h1 hx⟩
    exact (mem_res.mp this).2
  · intro h W hW hs
    exact h W hs ((mem_seen hN hR).mp hW).2
theorem lost_all (hR : RO N R) : (R.filter fun r => !ptl [N] R r.1 r.2) = [] := by
  rw [List.filter_eq_nil_iff]
  intro r hr
  have : ptl [N] R r.1 r.2 = true := ptl_iff.mpr fun Z h1 h2 => h2 N (by simp) r.2 (hR r hr).2 (told_mono (fun x hx => mem_inP.mpr ⟨h1 hx, (hR r hr).1.subset hx⟩) (told_rule hr))
  simp [this]
end
end Law

/-! Pk56d: the law. -/
namespace Law
open Ip
def nms : List Nm := [[112], [113], [114], [115], [117]]
theorem nms_ok (n : Nat) : NO (nms.take n) := by
  refine ⟨?_, ?_, ?_⟩
  · exact List.Nodup.sublist (List.take_sublist n nms) (by decide)
  · exact List.Pairwise.sublist (List.take_sublist n nms) (by decide)
  · rw [List.length_take]
    exact Nat.le_trans (Nat.min_le_right _ _) (by decide)
theorem cut5 : ∀ j : Nat, j < 5 → cutD (.tup [.str [112], .str [113], .str [114], .str [115], .str [117]]) none (some (1 + (j : Int))) = some (enP (nms.take (j + 1)))
  | 0, _ | 1, _ | 2, _ | 3, _ | 4, _ => rfl
  | n + 5, h => by omega
theorem len5 : ∀ j : Nat, j < 5 → 0 < (nms.take (j + 1)).length
  | 0, _ | 1, _ | 2, _ | 3, _ | 4, _ => by decide
  | n + 5, h => by omega
def Rv (a3 a4 a5 a7 a8 a11 a12 : Option (Bool × D)) : Env := [none, some (false, .box), none, a3, a4, a5, none, a7, a8, none, none, a11, a12, none, none, none, none, none, none, none, none]
theorem ok_P {p : List Nm} (h : p.length ≤ 1000000) : okD 1000000 0 (fun _ => true) 1 (enP p) = true := by
  simp [enP, okD, h]
theorem ok_R {R : List Rl} (h : R.length ≤ 1000000) (h' : ∀ r ∈ R, r.1.length ≤ 1000000) : okD 1000000 0 (fun _ => true) 3 (enR R) = true := by
  simp only [enR, okD, Bool.and_eq_true, List.all_eq_true, decide_eq_true_eq, List.length_map]
  refine ⟨h, fun x hx => ?_⟩
  obtain ⟨r, hr, rfl⟩ := List.mem_map.mp hx
  have := h' r hr
  simp [enr, enP, okD, this]
theorem pairs_snoc {l : List (List Nm)} {P : List Nm} : pairs (l ++ [P]) = pairs l ++ P.map fun c => (P, c) := by
  unfold pairs
  rw [List.flatMap_append]
  simp
theorem wxs_fz {G : Gl} {wn : Nat} {is : List Nat} {x : S} {xs : List S} {r r' : Env} {Q : Po4} (h : frz is r = frz is r') (k : wxs G wn (.fz is x :: xs) r' Q) : wxs G wn (.fz is x :: xs) r Q := by
  rw [wxs_cons, wx_fz] at k ⊢
  rw [h]
  exact k
theorem frz8 {a3 a4 a5 a7 a11 a12 : Option (Bool × D)} {d : D} {w : Bool} : frz [8] (Rv a3 a4 a5 a7 (some (w, d)) a11 a12) = frz [8] (Rv a3 a4 a5 a7 (some (false, d)) a11 a12) := by cases w <;> rfl
section
variable {wn k : Nat} {N : List Nm} {R T : List Rl} {parts : List (List Nm)} {Q : Po4}
/-- for each lost rule something seen shows it -/
theorem t16 (hw : 10 ≤ wn) (hN : NO N) (hR : RO N R) (hp : ∀ P ∈ parts, P.Sublist N) (hT : RO N T) (kT : KO N parts R T) (uq : UpC Q)
    (hn : ∀ r, LeE (Rv none none none none none none none) r → Q.nx r) :
    wxs (G wn (k + 10)) wn b6t16_law (Rv (some (false, enP N)) (some (false, enR R)) (some (false, .tup (parts.map enP))) none (some (false, .lst ((seen N R parts).map enP))) (some (false, enR (R.filter fun r => !ptl parts R r.1 r.2))) (some (false, enR T))) Q := by
  refine wxs_less uq (r := Rv none none none none (some (false, .lst ((seen N R parts).map enP))) (some (false, enR (R.filter fun r => !ptl parts R r.1 r.2))) (some (false, enR T))) (by try simp only [Rv]; (apply LeI.le; repeat (first | exact LeI.nil | apply LeI.s | apply LeI.n | apply LeI.r))) ?_
  simp only [b6t16_law, Rv, wp_con, wp_loc, wp_bin, wp_neg, wp_not, wp_and, wp_or, wp_ite, wp_cmp, wp_chain, wp_tup, wp_lst, wp_call, wp_bi, wp_isi, wp_sub, wp_sli, wp_rev, wp_lc, wp_dct, wp_dc, wp_me, wp_glo, wps_nil, wps_cons, wpos_nil, wpos_cons, wpts_nil, wpts_cons, wpo_none, wpo_some, wxs_nil, wxs_cons, wx_set, wx_par, wx_tgt, wx_aug, wx_app, wx_ext, wx_sti, wx_dput, wx_exp, wx_ret, wx_ife, wx_for, wx_brk, wx_cnt, wx_pas, wx_fz, mkW_v, mkW_o, mkW_t, opt_some, asI_int, evV_0, evV_s, evL_0, evL_s, setO_f, setO_T, setO_l, frz_nil, frz_cons, List.getElem?_cons_zero, List.getElem?_cons_succ, List.set_cons_zero, List.set_cons_succ, ownL_0, ownL_s, ownD_0, ownD_s, setO_d, pairUp_nil, pairUp_cons, dPuts_nil, setOs_nil, setOs_cons, bindAll_nil, bindAll_cons, bindT_nm, bindT_tp, bindTs_nil, bindTs_cons, wipeE_nil, wipeE_cons, Option.bind_some, Option.map_some, ends, cl_args, List.map_cons, List.map_nil, List.cons_append, List.nil_append, rep_0, rep_s, truD_bl, Bool.not_not, if_true_eq, if_false_eq, isStr, if_true, if_false, Bool.false_eq_true, eq_self, it_R]
  refine for_pass (R := Rv none none none none (some (false, .lst ((seen N R parts).map enP))) (some (false, enR (R.filter fun r => !ptl parts R r.1 r.2))) (some (false, enR T))) uq (fun r hr Q' uq' q1 => ?_) (hn _ (by try simp only [Rv]; (apply LeI.le; repeat (first | exact LeI.nil | apply LeI.s | apply LeI.n | apply LeI.r))))
  obtain ⟨hr, hl⟩ := List.mem_filter.mp hr
  have hl' : ptl parts R r.1 r.2 = false := by simpa using hl
  have hl2 : ¬ ptold parts R r.1 r.2 := fun t => by rw [ptl_iff.mpr t] at hl'; cases hl'
  simp only [wfT, b5_law, Rv, enr, wp_con, wp_loc, wp_bin, wp_neg, wp_not, wp_and, wp_or, wp_ite, wp_cmp, wp_chain, wp_tup, wp_lst, wp_call, wp_bi, wp_isi, wp_sub, wp_sli, wp_rev, wp_lc, wp_dct, wp_dc, wp_me, wp_glo, wps_nil, wps_cons, wpos_nil, wpos_cons, wpts_nil, wpts_cons, wpo_none, wpo_some, wxs_nil, wxs_cons, wx_set, wx_par, wx_tgt, wx_aug, wx_app, wx_ext, wx_sti, wx_dput, wx_exp, wx_ret, wx_ife, wx_for, wx_brk, wx_cnt, wx_pas, wx_fz, mkW_v, mkW_o, mkW_t, opt_some, asI_int, evV_0, evV_s, evL_0, evL_s, setO_f, setO_T, setO_l, frz_nil, frz_cons, List.getElem?_cons_zero, List.getElem?_cons_succ, List.set_cons_zero, List.set_cons_succ, ownL_0, ownL_s, ownD_0, ownD_s, setO_d, pairUp_nil, pairUp_cons, dPuts_nil, setOs_nil, setOs_cons, bindAll_nil, bindAll_cons, bindT_nm, bindT_tp, bindTs_nil, bindTs_cons, wipeE_nil, wipeE_cons, Option.bind_some, Option.map_some, ends, cl_args, List.map_cons, List.map_nil, List.cons_append, List.nil_append, rep_0, rep_s, truD_bl, Bool.not_not, if_true_eq, if_false_eq, isStr, if_true, if_false, Bool.false_eq_true, eq_self, itL]
  refine wlc_filter (fun W => (r.1.all fun x => decide (x ∈ W)) && !decide (r.2 ∈ W)) enP (fun W hW K' hK' => ?_) ?_
  · simp only [wlT, q8_law, wp_con, wp_loc, wp_bin, wp_neg, wp_not, wp_and, wp_or, wp_ite, wp_cmp, wp_chain, wp_tup, wp_lst, wp_call, wp_bi, wp_isi, wp_sub, wp_sli, wp_rev, wp_lc, wp_dct, wp_dc, wp_me, wp_glo, wps_nil, wps_cons, wpos_nil, wpos_cons, wpts_nil, wpts_cons, wpo_none, wpo_some, wxs_nil, wxs_cons, wx_set, wx_par, wx_tgt, wx_aug, wx_app, wx_ext, wx_sti, wx_dput, wx_exp, wx_ret, wx_ife, wx_for, wx_brk, wx_cnt, wx_pas, wx_fz, mkW_v, mkW_o, mkW_t, opt_some, asI_int, evV_0, evV_s, evL_0, evL_s, setO_f, setO_T, setO_l, frz_nil, frz_cons, List.getElem?_cons_zero, List.getElem?_cons_succ, List.set_cons_zero, List.set_cons_succ, ownL_0, ownL_s, ownD_0, ownD_s, setO_d, pairUp_nil, pairUp_cons, dPuts_nil, setOs_nil, setOs_cons, bindAll_nil, bindAll_cons, bindT_nm, bindT_tp, bindTs_nil, bindTs_cons, wipeE_nil, wipeE_cons, Option.bind_some, Option.map_some, ends, cl_args, List.map_cons, List.map_nil, List.cons_append, List.nil_append, rep_0, rep_s, truD_bl, Bool.not_not, if_true_eq, if_false_eq, isStr, if_true, if_false, Bool.false_eq_true, eq_self, it_P]
    refine wlc_all (fun x => decide (x ∈ W)) (fun x hx K' hK' => ?_) ?_
    · simp only [wlT, e12_law, wp_con, wp_loc, wp_bin, wp_neg, wp_not, wp_and, wp_or, wp_ite, wp_cmp, wp_chain, wp_tup, wp_lst, wp_call, wp_bi, wp_isi, wp_sub, wp_sli, wp_rev, wp_lc, wp_dct, wp_dc, wp_me, wp_glo, wps_nil, wps_cons, wpos_nil, wpos_cons, wpts_nil, wpts_cons, wpo_none, wpo_some, wxs_nil, wxs_cons, wx_set, wx_par, wx_tgt, wx_aug, wx_app, wx_ext, wx_sti, wx_dput, wx_exp, wx_ret, wx_ife, wx_for, wx_brk, wx_cnt, wx_pas, wx_fz, mkW_v, mkW_o, mkW_t, opt_some, asI_int, evV_0, evV_s, evL_0, evL_s, setO_f, setO_T, setO_l, frz_nil, frz_cons, List.getElem?_cons_zero, List.getElem?_cons_succ, List.set_cons_zero, List.set_cons_succ, ownL_0, ownL_s, ownD_0, ownD_s, setO_d, pairUp_nil, pairUp_cons, dPuts_nil, setOs_nil, setOs_cons, bindAll_nil, bindAll_cons, bindT_nm, bindT_tp, bindTs_nil, bindTs_cons, wipeE_nil, wipeE_cons, Option.bind_some, Option.map_some, ends, cl_args, List.map_cons, List.map_nil, List.cons_append, List.nil_append, rep_0, rep_s, truD_bl, Bool.not_not, if_true_eq, if_false_eq, isStr, if_true, if_false, Bool.false_eq_true, eq_self, in_P]
      exact hK'
    · try simp only [wp_con, wp_loc, wp_bin, wp_neg, wp_not, wp_and, wp_or, wp_ite, wp_cmp, wp_chain, wp_tup, wp_lst, wp_call, wp_bi, wp_isi, wp_sub, wp_sli, wp_rev, wp_lc, wp_dct, wp_dc, wp_me, wp_glo, wps_nil, wps_cons, wpos_nil, wpos_cons, wpts_nil, wpts_cons, wpo_none, wpo_some, wxs_nil, wxs_cons, wx_set, wx_par, wx_tgt, wx_aug, wx_app, wx_ext, wx_sti, wx_dput, wx_exp, wx_ret, wx_ife, wx_for, wx_brk, wx_cnt, wx_pas, wx_fz, mkW_v, mkW_o, mkW_t, opt_some, asI_int, evV_0, evV_s, evL_0, evL_s, setO_f, setO_T, setO_l, frz_nil, frz_cons, List.getElem?_cons_zero, List.getElem?_cons_succ, List.set_cons_zero, List.set_cons_succ, ownL_0, ownL_s, ownD_0, ownD_s, setO_d, pairUp_nil, pairUp_cons, dPuts_nil, setOs_nil, setOs_cons, bindAll_nil, bindAll_cons, bindT_nm, bindT_tp, bindTs_nil, bindTs_cons, wipeE_nil, wipeE_cons, Option.bind_some, Option.map_some, ends, cl_args, List.map_cons, List.map_nil, List.cons_append, List.nil_append, rep_0, rep_s, truD_bl, Bool.not_not, if_true_eq, if_false_eq, isStr, if_true, if_false, Bool.false_eq_true, eq_self]
      cases hb : (r.1.all fun x => decide (x ∈ W)) with
      | false =>
        rw [hb, Bool.false_and] at hK'
        try simp only [wp_con, wp_loc, wp_bin, wp_neg, wp_not, wp_and, wp_or, wp_ite, wp_cmp, wp_chain, wp_tup, wp_lst, wp_call, wp_bi, wp_isi, wp_sub, wp_sli, wp_rev, wp_lc, wp_dct, wp_dc, wp_me, wp_glo, wps_nil, wps_cons, wpos_nil, wpos_cons, wpts_nil, wpts_cons, wpo_none, wpo_some, wxs_nil, wxs_cons, wx_set, wx_par, wx_tgt, wx_aug, wx_app, wx_ext, wx_sti, wx_dput, wx_exp, wx_ret, wx_ife, wx_for, wx_brk, wx_cnt, wx_pas, wx_fz, mkW_v, mkW_o, mkW_t, opt_some, asI_int, evV_0, evV_s, evL_0, evL_s, setO_f, setO_T, setO_l, frz_nil, frz_cons, List.getElem?_cons_zero, List.getElem?_cons_succ, List.set_cons_zero, List.set_cons_succ, ownL_0, ownL_s, ownD_0, ownD_s, setO_d, pairUp_nil, pairUp_cons, dPuts_nil, setOs_nil, setOs_cons, bindAll_nil, bindAll_cons, bindT_nm, bindT_tp, bindTs_nil, bindTs_cons, wipeE_nil, wipeE_cons, Option.bind_some, Option.map_some, ends, cl_args, List.map_cons, List.map_nil, List.cons_append, List.nil_append, rep_0, rep_s, truD_bl, Bool.not_not, if_true_eq, if_false_eq, isStr, if_true, if_false, Bool.false_eq_true, eq_self]
        exact hK'
      | true =>
        rw [hb, Bool.true_and] at hK'
        simp only [wp_con, wp_loc, wp_bin, wp_neg, wp_not, wp_and, wp_or, wp_ite, wp_cmp, wp_chain, wp_tup, wp_lst, wp_call, wp_bi, wp_isi, wp_sub, wp_sli, wp_rev, wp_lc, wp_dct, wp_dc, wp_me, wp_glo, wps_nil, wps_cons, wpos_nil, wpos_cons, wpts_nil, wpts_cons, wpo_none, wpo_some, wxs_nil, wxs_cons, wx_set, wx_par, wx_tgt, wx_aug, wx_app, wx_ext, wx_sti, wx_dput, wx_exp, wx_ret, wx_ife, wx_for, wx_brk, wx_cnt, wx_pas, wx_fz, mkW_v, mkW_o, mkW_t, opt_some, asI_int, evV_0, evV_s, evL_0, evL_s, setO_f, setO_T, setO_l, frz_nil, frz_cons, List.getElem?_cons_zero, List.getElem?_cons_succ, List.set_cons_zero, List.set_cons_succ, ownL_0, ownL_s, ownD_0, ownD_s, setO_d, pairUp_nil, pairUp_cons, dPuts_nil, setOs_nil, setOs_cons, bindAll_nil, bindAll_cons, bindT_nm, bindT_tp, bindTs_nil, bindTs_cons, wipeE_nil, wipeE_cons, Option.bind_some, Option.map_some, ends, cl_args, List.map_cons, List.map_nil, List.cons_append, List.nil_append, rep_0, rep_s, truD_bl, Bool.not_not, if_true_eq, if_false_eq, isStr, if_true, if_false, Bool.false_eq_true, eq_self, nin_P]
        cases hb2 : (!decide (r.2 ∈ W)) with
        | true =>
          rw [hb2] at hK'
          simp only [wp_con, wp_loc, wp_bin, wp_neg, wp_not, wp_and, wp_or, wp_ite, wp_cmp, wp_chain, wp_tup, wp_lst, wp_call, wp_bi, wp_isi, wp_sub, wp_sli, wp_rev, wp_lc, wp_dct, wp_dc, wp_me, wp_glo, wps_nil, wps_cons, wpos_nil, wpos_cons, wpts_nil, wpts_cons, wpo_none, wpo_some, wxs_nil, wxs_cons, wx_set, wx_par, wx_tgt, wx_aug, wx_app, wx_ext, wx_sti, wx_dput, wx_exp, wx_ret, wx_ife, wx_for, wx_brk, wx_cnt, wx_pas, wx_fz, mkW_v, mkW_o, mkW_t, opt_some, asI_int, evV_0, evV_s, evL_0, evL_s, setO_f, setO_T, setO_l, frz_nil, frz_cons, List.getElem?_cons_zero, List.getElem?_cons_succ, List.set_cons_zero, List.set_cons_succ, ownL_0, ownL_s, ownD_0, ownD_s, setO_d, pairUp_nil, pairUp_cons, dPuts_nil, setOs_nil, setOs_cons, bindAll_nil, bindAll_cons, bindT_nm, bindT_tp, bindTs_nil, bindTs_cons, wipeE_nil, wipeE_cons, Option.bind_some, Option.map_some, ends, cl_args, List.map_cons, List.map_nil, List.cons_append, List.nil_append, rep_0, rep_s, truD_bl, Bool.not_not, if_true_eq, if_false_eq, isStr, if_true, if_false, Bool.false_eq_true, eq_self, e13_law]
          exact hK'
        | false =>
          rw [hb2] at hK'
          try simp only [wp_con, wp_loc, wp_bin, wp_neg, wp_not, wp_and, wp_or, wp_ite, wp_cmp, wp_chain, wp_tup, wp_lst, wp_call, wp_bi, wp_isi, wp_sub, wp_sli, wp_rev, wp_lc, wp_dct, wp_dc, wp_me, wp_glo, wps_nil, wps_cons, wpos_nil, wpos_cons, wpts_nil, wpts_cons, wpo_none, wpo_some, wxs_nil, wxs_cons, wx_set, wx_par, wx_tgt, wx_aug, wx_app, wx_ext, wx_sti, wx_dput, wx_exp, wx_ret, wx_ife, wx_for, wx_brk, wx_cnt, wx_pas, wx_fz, mkW_v, mkW_o, mkW_t, opt_some, asI_int, evV_0, evV_s, evL_0, evL_s, setO_f, setO_T, setO_l, frz_nil, frz_cons, List.getElem?_cons_zero, List.getElem?_cons_succ, List.set_cons_zero, List.set_cons_succ, ownL_0, ownL_s, ownD_0, ownD_s, setO_d, pairUp_nil, pairUp_cons, dPuts_nil, setOs_nil, setOs_cons, bindAll_nil, bindAll_cons, bindT_nm, bindT_tp, bindTs_nil, bindTs_cons, wipeE_nil, wipeE_cons, Option.bind_some, Option.map_some, ends, cl_args, List.map_cons, List.map_nil, List.cons_append, List.nil_append, rep_0, rep_s, truD_bl, Bool.not_not, if_true_eq, if_false_eq, isStr, if_true, if_false, Bool.false_eq_true, eq_self]
          exact hK'
  · have ne : (seen N R parts).filter (fun W => (r.1.all fun x => decide (x ∈ W)) && !decide (r.2 ∈ W)) ≠ [] := fun e => by
      rw [List.filter_eq_nil_iff] at e
      refine hl2 fun Z h1 h2 => ?_
      have hm : res N Z ∈ seen N R parts := (mem_seen hN hR).mpr ⟨res_sub, res_seen (fun P hP => (hp P hP).subset) h2⟩
      have := e _ hm
      by_cases q : r.2 ∈ Z
      · exact q
      · refine absurd ?_ this
        rw [Bool.and_eq_true, List.all_eq_true]
        refine ⟨fun x hx => decide_eq_true (mem_res.mpr ⟨(hR r hr).1.subset hx, h1 hx⟩), ?_⟩
        rw [decide_eq_false fun h => q (mem_res.mp h).2]
        rfl
    have ce : cmpD .eq (.lst (((seen N R parts).filter fun W => (r.1.all fun x => decide (x ∈ W)) && !decide (r.2 ∈ W)).map enP)) (.lst []) = some false := by
      have := En_P.ceqL ((seen N R parts).filter fun W => (r.1.all fun x => decide (x ∈ W)) && !decide (r.2 ∈ W)) []
      rw [decide_eq_false ne] at this
      exact this
    simp only [wp_con, wp_loc, wp_bin, wp_neg, wp_not, wp_and, wp_or, wp_ite, wp_cmp, wp_chain, wp_tup, wp_lst, wp_call, wp_bi, wp_isi, wp_sub, wp_sli, wp_rev, wp_lc, wp_dct, wp_dc, wp_me, wp_glo, wps_nil, wps_cons, wpos_nil, wpos_cons, wpts_nil, wpts_cons, wpo_none, wpo_some, wxs_nil, wxs_cons, wx_set, wx_par, wx_tgt, wx_aug, wx_app, wx_ext, wx_sti, wx_dput, wx_exp, wx_ret, wx_ife, wx_for, wx_brk, wx_cnt, wx_pas, wx_fz, mkW_v, mkW_o, mkW_t, opt_some, asI_int, evV_0, evV_s, evL_0, evL_s, setO_f, setO_T, setO_l, frz_nil, frz_cons, List.getElem?_cons_zero, List.getElem?_cons_succ, List.set_cons_zero, List.set_cons_succ, ownL_0, ownL_s, ownD_0, ownD_s, setO_d, pairUp_nil, pairUp_cons, dPuts_nil, setOs_nil, setOs_cons, bindAll_nil, bindAll_cons, bindT_nm, bindT_tp, bindTs_nil, bindTs_cons, wipeE_nil, wipeE_cons, Option.bind_some, Option.map_some, ends, cl_args, List.map_cons, List.map_nil, List.cons_append, List.nil_append, rep_0, rep_s, truD_bl, Bool.not_not, if_true_eq, if_false_eq, isStr, if_true, if_false, Bool.false_eq_true, eq_self, b5t1_law, ce]
    refine c_does_tell hw hN hT (hR r hr).1 (hR r hr).2 ?_
    have cn : cmpD .isNot (.bl false) (.bl false) = some false := rfl
    simp only [wp_con, wp_loc, wp_bin, wp_neg, wp_not, wp_and, wp_or, wp_ite, wp_cmp, wp_chain, wp_tup, wp_lst, wp_call, wp_bi, wp_isi, wp_sub, wp_sli, wp_rev, wp_lc, wp_dct, wp_dc, wp_me, wp_glo, wps_nil, wps_cons, wpos_nil, wpos_cons, wpts_nil, wpts_cons, wpo_none, wpo_some, wxs_nil, wxs_cons, wx_set, wx_par, wx_tgt, wx_aug, wx_app, wx_ext, wx_sti, wx_dput, wx_exp, wx_ret, wx_ife, wx_for, wx_brk, wx_cnt, wx_pas, wx_fz, mkW_v, mkW_o, mkW_t, opt_some, asI_int, evV_0, evV_s, evL_0, evL_s, setO_f, setO_T, setO_l, frz_nil, frz_cons, List.getElem?_cons_zero, List.getElem?_cons_succ, List.set_cons_zero, List.set_cons_succ, ownL_0, ownL_s, ownD_0, ownD_s, setO_d, pairUp_nil, pairUp_cons, dPuts_nil, setOs_nil, setOs_cons, bindAll_nil, bindAll_cons, bindT_nm, bindT_tp, bindTs_nil, bindTs_cons, wipeE_nil, wipeE_cons, Option.bind_some, Option.map_some, ends, cl_args, List.map_cons, List.map_nil, List.cons_append, List.nil_append, rep_0, rep_s, truD_bl, Bool.not_not, if_true_eq, if_false_eq, isStr, if_true, if_false, Bool.false_eq_true, eq_self, kT.tl, hl', cn]
    exact q1 _ (by try simp only [Rv]; (apply LeI.le; repeat (first | exact LeI.nil | apply LeI.s | apply LeI.n | apply LeI.r)))
theorem t12 (hw : 10 ≤ wn) (hN : NO N) (hR : RO N R) (hp : ∀ P ∈ parts, P.Sublist N) (h4 : parts.length ≤ 4) (uq : UpC Q)
    (hn : ∀ r, LeE (Rv none none none none none none none) r → Q.nx r) :
    wxs (G wn (k + 10)) wn b6t12_law (Rv (some (false, enP N)) (some (false, enR R)) (some (false, .tup (parts.map enP))) none (some (false, .lst ((seen N R parts).map enP))) (some (false, enR (R.filter fun r => !ptl parts R r.1 r.2))) none) Q := by
  have sz : szL = 16777216 := rfl
  simp only [b6t12_law, Rv, wp_con, wp_loc, wp_bin, wp_neg, wp_not, wp_and, wp_or, wp_ite, wp_cmp, wp_chain, wp_tup, wp_lst, wp_call, wp_bi, wp_isi, wp_sub, wp_sli, wp_rev, wp_lc, wp_dct, wp_dc, wp_me, wp_glo, wps_nil, wps_cons, wpos_nil, wpos_cons, wpts_nil, wpts_cons, wpo_none, wpo_some, wxs_nil, wxs_cons, wx_set, wx_par, wx_tgt, wx_aug, wx_app, wx_ext, wx_sti, wx_dput, wx_exp, wx_ret, wx_ife, wx_for, wx_brk, wx_cnt, wx_pas, wx_fz, mkW_v, mkW_o, mkW_t, opt_some, asI_int, evV_0, evV_s, evL_0, evL_s, setO_f, setO_T, setO_l, frz_nil, frz_cons, List.getElem?_cons_zero, List.getElem?_cons_succ, List.set_cons_zero, List.set_cons_succ, ownL_0, ownL_s, ownD_0, ownD_s, setO_d, pairUp_nil, pairUp_cons, dPuts_nil, setOs_nil, setOs_cons, bindAll_nil, bindAll_cons, bindT_nm, bindT_tp, bindTs_nil, bindTs_cons, wipeE_nil, wipeE_cons, Option.bind_some, Option.map_some, ends, cl_args, List.map_cons, List.map_nil, List.cons_append, List.nil_append, rep_0, rep_s, truD_bl, Bool.not_not, if_true_eq, if_false_eq, isStr, if_true, if_false, Bool.false_eq_true, eq_self, b6t13_law, itT]
  refine for_inv (fun (rest : List (List Nm)) r => ∃ dn, ∃ T : List Rl, parts = dn ++ rest ∧ r = Rv (some (false, enP N)) (some (false, enR R)) (some (false, .tup (parts.map enP))) none (some (false, .lst ((seen N R parts).map enP))) (some (false, enR (R.filter fun r => !ptl parts R r.1 r.2))) (some (true, .lst (T.map enr))) ∧ KO N dn R T ∧ T.length ≤ dn.length * 200) ?_ ?_ ?_
  · exact ⟨[], [], rfl, rfl, .nil, Nat.zero_le _⟩
  · rintro P rest r ⟨dn, T, e, rfl, h1, h2⟩
    have el := congrArg List.length e
    rw [List.length_append, List.length_cons] at el
    simp only [wfT, b4_law, Rv, wp_con, wp_loc, wp_bin, wp_neg, wp_not, wp_and, wp_or, wp_ite, wp_cmp, wp_chain, wp_tup, wp_lst, wp_call, wp_bi, wp_isi, wp_sub, wp_sli, wp_rev, wp_lc, wp_dct, wp_dc, wp_me, wp_glo, wps_nil, wps_cons, wpos_nil, wpos_cons, wpts_nil, wpts_cons, wpo_none, wpo_some, wxs_nil, wxs_cons, wx_set, wx_par, wx_tgt, wx_aug, wx_app, wx_ext, wx_sti, wx_dput, wx_exp, wx_ret, wx_ife, wx_for, wx_brk, wx_cnt, wx_pas, wx_fz, mkW_v, mkW_o, mkW_t, opt_some, asI_int, evV_0, evV_s, evL_0, evL_s, setO_f, setO_T, setO_l, frz_nil, frz_cons, List.getElem?_cons_zero, List.getElem?_cons_succ, List.set_cons_zero, List.set_cons_succ, ownL_0, ownL_s, ownD_0, ownD_s, setO_d, pairUp_nil, pairUp_cons, dPuts_nil, setOs_nil, setOs_cons, bindAll_nil, bindAll_cons, bindT_nm, bindT_tp, bindTs_nil, bindTs_cons, wipeE_nil, wipeE_cons, Option.bind_some, Option.map_some, ends, cl_args, List.map_cons, List.map_nil, List.cons_append, List.nil_append, rep_0, rep_s, truD_bl, Bool.not_not, if_true_eq, if_false_eq, isStr, if_true, if_false, Bool.false_eq_true, eq_self]
    refine c_kept hw hN hR (hp P (by rw [e]; simp)) fun T' k1 k2 => ?_
    simp only [enR, seqD_tup, wp_con, wp_loc, wp_bin, wp_neg, wp_not, wp_and, wp_or, wp_ite, wp_cmp, wp_chain, wp_tup, wp_lst, wp_call, wp_bi, wp_isi, wp_sub, wp_sli, wp_rev, wp_lc, wp_dct, wp_dc, wp_me, wp_glo, wps_nil, wps_cons, wpos_nil, wpos_cons, wpts_nil, wpts_cons, wpo_none, wpo_some, wxs_nil, wxs_cons, wx_set, wx_par, wx_tgt, wx_aug, wx_app, wx_ext, wx_sti, wx_dput, wx_exp, wx_ret, wx_ife, wx_for, wx_brk, wx_cnt, wx_pas, wx_fz, mkW_v, mkW_o, mkW_t, opt_some, asI_int, evV_0, evV_s, evL_0, evL_s, setO_f, setO_T, setO_l, frz_nil, frz_cons, List.getElem?_cons_zero, List.getElem?_cons_succ, List.set_cons_zero, List.set_cons_succ, ownL_0, ownL_s, ownD_0, ownD_s, setO_d, pairUp_nil, pairUp_cons, dPuts_nil, setOs_nil, setOs_cons, bindAll_nil, bindAll_cons, bindT_nm, bindT_tp, bindTs_nil, bindTs_cons, wipeE_nil, wipeE_cons, Option.bind_some, Option.map_some, ends, cl_args, List.map_cons, List.map_nil, List.cons_append, List.nil_append, rep_0, rep_s, truD_bl, Bool.not_not, if_true_eq, if_false_eq, isStr, if_true, if_false, Bool.false_eq_true, eq_self]
    refine ⟨by simp; omega, _, ?_, dn ++ [P], T ++ T', by rw [e]; simp, rfl, ?_, ?_⟩
    · rw [List.map_append]
      try simp only [Rv]
      (apply LeI.le; repeat (first | exact LeI.nil | apply LeI.s | apply LeI.n | apply LeI.r))
    · show KQ N (pairs (dn ++ [P])) R (T ++ T')
      rw [pairs_snoc]
      exact h1.append k1
    · simp
      omega
  · rintro r ⟨dn, T, e, rfl, h1, h2⟩
    have e' : parts = dn := by simpa using e
    subst e'
    obtain ⟨m, _, m2, m3, m4⟩ := sset_en En_r (l := T) isTupC_r
    have km : KO N parts R m := h1.perm m3
    have ks : KO N parts R (srt enr m) := km.perm fun r => mem_srt
    have hl := km.count hN (fun P hP => (hp P hP).subset) m2
    have hT : RO N (srt enr m) := fun r hr => by
      obtain ⟨q, hq, a1, a2, _⟩ := ks.so r hr
      obtain ⟨b1, b2⟩ := mem_pairs.mp hq
      exact ⟨a2, (hp q.1 b1).subset (a1 ▸ b2)⟩
    have et : biD .tuple [.lst ((srt enr m).map enr)] = some (enR (srt enr m)) := rfl
    simp only [b6t14_law, Rv, wp_con, wp_loc, wp_bin, wp_neg, wp_not, wp_and, wp_or, wp_ite, wp_cmp, wp_chain, wp_tup, wp_lst, wp_call, wp_bi, wp_isi, wp_sub, wp_sli, wp_rev, wp_lc, wp_dct, wp_dc, wp_me, wp_glo, wps_nil, wps_cons, wpos_nil, wpos_cons, wpts_nil, wpts_cons, wpo_none, wpo_some, wxs_nil, wxs_cons, wx_set, wx_par, wx_tgt, wx_aug, wx_app, wx_ext, wx_sti, wx_dput, wx_exp, wx_ret, wx_ife, wx_for, wx_brk, wx_cnt, wx_pas, wx_fz, mkW_v, mkW_o, mkW_t, opt_some, asI_int, evV_0, evV_s, evL_0, evL_s, setO_f, setO_T, setO_l, frz_nil, frz_cons, List.getElem?_cons_zero, List.getElem?_cons_succ, List.set_cons_zero, List.set_cons_succ, ownL_0, ownL_s, ownD_0, ownD_s, setO_d, pairUp_nil, pairUp_cons, dPuts_nil, setOs_nil, setOs_cons, bindAll_nil, bindAll_cons, bindT_nm, bindT_tp, bindTs_nil, bindTs_cons, wipeE_nil, wipeE_cons, Option.bind_some, Option.map_some, ends, cl_args, List.map_cons, List.map_nil, List.cons_append, List.nil_append, rep_0, rep_s, truD_bl, Bool.not_not, if_true_eq, if_false_eq, isStr, if_true, if_false, Bool.false_eq_true, eq_self, m4 hl, et, b6t15_law]
    refine c_same_rules hw hN hT hR ?_
    have e1 : ((srt enr m).all fun r => tl R r.1 r.2) = true := List.all_eq_true.mpr fun r hr => tl_iff.mpr (ks.sound hr)
    have e2 : (R.all fun r => tl (srt enr m) r.1 r.2) = decide ((R.filter fun r => !ptl parts R r.1 r.2) = []) := by
      rw [Bool.eq_iff_iff, decide_eq_true_iff, List.filter_eq_nil_iff, List.all_eq_true]
      refine forall_congr' fun r => forall_congr' fun hr => ?_
      rw [ks.tl]
      simp
    have e3 : cmpD .eq (enR (R.filter fun r => !ptl parts R r.1 r.2)) (.tup []) = some (decide ((R.filter fun r => !ptl parts R r.1 r.2) = [])) := En_r.ceqT _ []
    have e4 : ∀ b : Bool, cmpD .ne (.bl b) (.bl b) = some false := fun b => by cases b <;> rfl
    simp only [e1, e2, Bool.and_true, wp_con, wp_loc, wp_bin, wp_neg, wp_not, wp_and, wp_or, wp_ite, wp_cmp, wp_chain, wp_tup, wp_lst, wp_call, wp_bi, wp_isi, wp_sub, wp_sli, wp_rev, wp_lc, wp_dct, wp_dc, wp_me, wp_glo, wps_nil, wps_cons, wpos_nil, wpos_cons, wpts_nil, wpts_cons, wpo_none, wpo_some, wxs_nil, wxs_cons, wx_set, wx_par, wx_tgt, wx_aug, wx_app, wx_ext, wx_sti, wx_dput, wx_exp, wx_ret, wx_ife, wx_for, wx_brk, wx_cnt, wx_pas, wx_fz, mkW_v, mkW_o, mkW_t, opt_some, asI_int, evV_0, evV_s, evL_0, evL_s, setO_f, setO_T, setO_l, frz_nil, frz_cons, List.getElem?_cons_zero, List.getElem?_cons_succ, List.set_cons_zero, List.set_cons_succ, ownL_0, ownL_s, ownD_0, ownD_s, setO_d, pairUp_nil, pairUp_cons, dPuts_nil, setOs_nil, setOs_cons, bindAll_nil, bindAll_cons, bindT_nm, bindT_tp, bindTs_nil, bindTs_cons, wipeE_nil, wipeE_cons, Option.bind_some, Option.map_some, ends, cl_args, List.map_cons, List.map_nil, List.cons_append, List.nil_append, rep_0, rep_s, truD_bl, Bool.not_not, if_true_eq, if_false_eq, isStr, if_true, if_false, Bool.false_eq_true, eq_self, e3, e4]
    exact t16 hw hN hR hp hT ks uq hn
theorem t10 {w : Bool} (hw : 10 ≤ wn) (hN : NO N) (hR : RO N R) (r5 : R.length ≤ 5) (hp : ∀ P ∈ parts, P.Sublist N) (h4 : parts.length ≤ 4) (uq : UpC Q)
    (hn : ∀ r, LeE (Rv none none none none none none none) r → Q.nx r) :
    wxs (G wn (k + 10)) wn b6t10_law (Rv (some (false, enP N)) (some (false, enR R)) (some (false, .tup (parts.map enP))) none (some (w, .lst ((seen N R parts).map enP))) none none) Q := by
  have t := t12 (k := k) hw hN hR hp h4 uq hn
  refine wxs_fz frz8 ?_
  simp only [b6t10_law, Rv, wp_con, wp_loc, wp_bin, wp_neg, wp_not, wp_and, wp_or, wp_ite, wp_cmp, wp_chain, wp_tup, wp_lst, wp_call, wp_bi, wp_isi, wp_sub, wp_sli, wp_rev, wp_lc, wp_dct, wp_dc, wp_me, wp_glo, wps_nil, wps_cons, wpos_nil, wpos_cons, wpts_nil, wpts_cons, wpo_none, wpo_some, wxs_nil, wxs_cons, wx_set, wx_par, wx_tgt, wx_aug, wx_app, wx_ext, wx_sti, wx_dput, wx_exp, wx_ret, wx_ife, wx_for, wx_brk, wx_cnt, wx_pas, wx_fz, mkW_v, mkW_o, mkW_t, opt_some, asI_int, evV_0, evV_s, evL_0, evL_s, setO_f, setO_T, setO_l, frz_nil, frz_cons, List.getElem?_cons_zero, List.getElem?_cons_succ, List.set_cons_zero, List.set_cons_succ, ownL_0, ownL_s, ownD_0, ownD_s, setO_d, pairUp_nil, pairUp_cons, dPuts_nil, setOs_nil, setOs_cons, bindAll_nil, bindAll_cons, bindT_nm, bindT_tp, bindTs_nil, bindTs_cons, wipeE_nil, wipeE_cons, Option.bind_some, Option.map_some, ends, cl_args, List.map_cons, List.map_nil, List.cons_append, List.nil_append, rep_0, rep_s, truD_bl, Bool.not_not, if_true_eq, if_false_eq, isStr, if_true, if_false, Bool.false_eq_true, eq_self, it_R]
  refine wlc_filter (fun r => !ptl parts R r.1 r.2) enr (fun r hr K' hK' => ?_) ?_
  · simp only [wlT, enr, q7_law, wp_con, wp_loc, wp_bin, wp_neg, wp_not, wp_and, wp_or, wp_ite, wp_cmp, wp_chain, wp_tup, wp_lst, wp_call, wp_bi, wp_isi, wp_sub, wp_sli, wp_rev, wp_lc, wp_dct, wp_dc, wp_me, wp_glo, wps_nil, wps_cons, wpos_nil, wpos_cons, wpts_nil, wpts_cons, wpo_none, wpo_some, wxs_nil, wxs_cons, wx_set, wx_par, wx_tgt, wx_aug, wx_app, wx_ext, wx_sti, wx_dput, wx_exp, wx_ret, wx_ife, wx_for, wx_brk, wx_cnt, wx_pas, wx_fz, mkW_v, mkW_o, mkW_t, opt_some, asI_int, evV_0, evV_s, evL_0, evL_s, setO_f, setO_T, setO_l, frz_nil, frz_cons, List.getElem?_cons_zero, List.getElem?_cons_succ, List.set_cons_zero, List.set_cons_succ, ownL_0, ownL_s, ownD_0, ownD_s, setO_d, pairUp_nil, pairUp_cons, dPuts_nil, setOs_nil, setOs_cons, bindAll_nil, bindAll_cons, bindT_nm, bindT_tp, bindTs_nil, bindTs_cons, wipeE_nil, wipeE_cons, Option.bind_some, Option.map_some, ends, cl_args, List.map_cons, List.map_nil, List.cons_append, List.nil_append, rep_0, rep_s, truD_bl, Bool.not_not, if_true_eq, if_false_eq, isStr, if_true, if_false, Bool.false_eq_true, eq_self]
    refine c_law_tells ?_
    rw [tells_seen hN hR hp (hR r hr).1 (hR r hr).2]
    try simp only [wp_con, wp_loc, wp_bin, wp_neg, wp_not, wp_and, wp_or, wp_ite, wp_cmp, wp_chain, wp_tup, wp_lst, wp_call, wp_bi, wp_isi, wp_sub, wp_sli, wp_rev, wp_lc, wp_dct, wp_dc, wp_me, wp_glo, wps_nil, wps_cons, wpos_nil, wpos_cons, wpts_nil, wpts_cons, wpo_none, wpo_some, wxs_nil, wxs_cons, wx_set, wx_par, wx_tgt, wx_aug, wx_app, wx_ext, wx_sti, wx_dput, wx_exp, wx_ret, wx_ife, wx_for, wx_brk, wx_cnt, wx_pas, wx_fz, mkW_v, mkW_o, mkW_t, opt_some, asI_int, evV_0, evV_s, evL_0, evL_s, setO_f, setO_T, setO_l, frz_nil, frz_cons, List.getElem?_cons_zero, List.getElem?_cons_succ, List.set_cons_zero, List.set_cons_succ, ownL_0, ownL_s, ownD_0, ownD_s, setO_d, pairUp_nil, pairUp_cons, dPuts_nil, setOs_nil, setOs_cons, bindAll_nil, bindAll_cons, bindT_nm, bindT_tp, bindTs_nil, bindTs_cons, wipeE_nil, wipeE_cons, Option.bind_some, Option.map_some, ends, cl_args, List.map_cons, List.map_nil, List.cons_append, List.nil_append, rep_0, rep_s, truD_bl, Bool.not_not, if_true_eq, if_false_eq, isStr, if_true, if_false, Bool.false_eq_true, eq_self]
    cases hb : (!ptl parts R r.1 r.2) with
    | true =>
      rw [hb] at hK'
      simp only [wp_con, wp_loc, wp_bin, wp_neg, wp_not, wp_and, wp_or, wp_ite, wp_cmp, wp_chain, wp_tup, wp_lst, wp_call, wp_bi, wp_isi, wp_sub, wp_sli, wp_rev, wp_lc, wp_dct, wp_dc, wp_me, wp_glo, wps_nil, wps_cons, wpos_nil, wpos_cons, wpts_nil, wpts_cons, wpo_none, wpo_some, wxs_nil, wxs_cons, wx_set, wx_par, wx_tgt, wx_aug, wx_app, wx_ext, wx_sti, wx_dput, wx_exp, wx_ret, wx_ife, wx_for, wx_brk, wx_cnt, wx_pas, wx_fz, mkW_v, mkW_o, mkW_t, opt_some, asI_int, evV_0, evV_s, evL_0, evL_s, setO_f, setO_T, setO_l, frz_nil, frz_cons, List.getElem?_cons_zero, List.getElem?_cons_succ, List.set_cons_zero, List.set_cons_succ, ownL_0, ownL_s, ownD_0, ownD_s, setO_d, pairUp_nil, pairUp_cons, dPuts_nil, setOs_nil, setOs_cons, bindAll_nil, bindAll_cons, bindT_nm, bindT_tp, bindTs_nil, bindTs_cons, wipeE_nil, wipeE_cons, Option.bind_some, Option.map_some, ends, cl_args, List.map_cons, List.map_nil, List.cons_append, List.nil_append, rep_0, rep_s, truD_bl, Bool.not_not, if_true_eq, if_false_eq, isStr, if_true, if_false, Bool.false_eq_true, eq_self, e11_law]
      exact hK'
    | false =>
      rw [hb] at hK'
      try simp only [wp_con, wp_loc, wp_bin, wp_neg, wp_not, wp_and, wp_or, wp_ite, wp_cmp, wp_chain, wp_tup, wp_lst, wp_call, wp_bi, wp_isi, wp_sub, wp_sli, wp_rev, wp_lc, wp_dct, wp_dc, wp_me, wp_glo, wps_nil, wps_cons, wpos_nil, wpos_cons, wpts_nil, wpts_cons, wpo_none, wpo_some, wxs_nil, wxs_cons, wx_set, wx_par, wx_tgt, wx_aug, wx_app, wx_ext, wx_sti, wx_dput, wx_exp, wx_ret, wx_ife, wx_for, wx_brk, wx_cnt, wx_pas, wx_fz, mkW_v, mkW_o, mkW_t, opt_some, asI_int, evV_0, evV_s, evL_0, evL_s, setO_f, setO_T, setO_l, frz_nil, frz_cons, List.getElem?_cons_zero, List.getElem?_cons_succ, List.set_cons_zero, List.set_cons_succ, ownL_0, ownL_s, ownD_0, ownD_s, setO_d, pairUp_nil, pairUp_cons, dPuts_nil, setOs_nil, setOs_cons, bindAll_nil, bindAll_cons, bindT_nm, bindT_tp, bindTs_nil, bindTs_cons, wipeE_nil, wipeE_cons, Option.bind_some, Option.map_some, ends, cl_args, List.map_cons, List.map_nil, List.cons_append, List.nil_append, rep_0, rep_s, truD_bl, Bool.not_not, if_true_eq, if_false_eq, isStr, if_true, if_false, Bool.false_eq_true, eq_self]
      exact hK'
  · have et : biD .tuple [.lst ((R.filter fun r => !ptl parts R r.1 r.2).map enr)] = some (enR (R.filter fun r => !ptl parts R r.1 r.2)) := rfl
    simp only [wp_con, wp_loc, wp_bin, wp_neg, wp_not, wp_and, wp_or, wp_ite, wp_cmp, wp_chain, wp_tup, wp_lst, wp_call, wp_bi, wp_isi, wp_sub, wp_sli, wp_rev, wp_lc, wp_dct, wp_dc, wp_me, wp_glo, wps_nil, wps_cons, wpos_nil, wpos_cons, wpts_nil, wpts_cons, wpo_none, wpo_some, wxs_nil, wxs_cons, wx_set, wx_par, wx_tgt, wx_aug, wx_app, wx_ext, wx_sti, wx_dput, wx_exp, wx_ret, wx_ife, wx_for, wx_brk, wx_cnt, wx_pas, wx_fz, mkW_v, mkW_o, mkW_t, opt_some, asI_int, evV_0, evV_s, evL_0, evL_s, setO_f, setO_T, setO_l, frz_nil, frz_cons, List.getElem?_cons_zero, List.getElem?_cons_succ, List.set_cons_zero, List.set_cons_succ, ownL_0, ownL_s, ownD_0, ownD_s, setO_d, pairUp_nil, pairUp_cons, dPuts_nil, setOs_nil, setOs_cons, bindAll_nil, bindAll_cons, bindT_nm, bindT_tp, bindTs_nil, bindTs_cons, wipeE_nil, wipeE_cons, Option.bind_some, Option.map_some, ends, cl_args, List.map_cons, List.map_nil, List.cons_append, List.nil_append, rep_0, rep_s, truD_bl, Bool.not_not, if_true_eq, if_false_eq, isStr, if_true, if_false, Bool.false_eq_true, eq_self, et, b6t11_law]
    refine c_lost hw hN hR hp ?_
    have l1 : (R.filter fun r => !ptl parts R r.1 r.2).length ≤ 5 := Nat.le_trans (List.length_filter_le ..) r5
    refine c_same 3 _ _ _ (ok_R (by omega) fun r hr => ?_) (by decide) ?_
    · have := sub_len hN (hR r (List.mem_filter.mp hr).1).1
      omega
    · simp only [wp_con, wp_loc, wp_bin, wp_neg, wp_not, wp_and, wp_or, wp_ite, wp_cmp, wp_chain, wp_tup, wp_lst, wp_call, wp_bi, wp_isi, wp_sub, wp_sli, wp_rev, wp_lc, wp_dct, wp_dc, wp_me, wp_glo, wps_nil, wps_cons, wpos_nil, wpos_cons, wpts_nil, wpts_cons, wpo_none, wpo_some, wxs_nil, wxs_cons, wx_set, wx_par, wx_tgt, wx_aug, wx_app, wx_ext, wx_sti, wx_dput, wx_exp, wx_ret, wx_ife, wx_for, wx_brk, wx_cnt, wx_pas, wx_fz, mkW_v, mkW_o, mkW_t, opt_some, asI_int, evV_0, evV_s, evL_0, evL_s, setO_f, setO_T, setO_l, frz_nil, frz_cons, List.getElem?_cons_zero, List.getElem?_cons_succ, List.set_cons_zero, List.set_cons_succ, ownL_0, ownL_s, ownD_0, ownD_s, setO_d, pairUp_nil, pairUp_cons, dPuts_nil, setOs_nil, setOs_cons, bindAll_nil, bindAll_cons, bindT_nm, bindT_tp, bindTs_nil, bindTs_cons, wipeE_nil, wipeE_cons, Option.bind_some, Option.map_some, ends, cl_args, List.map_cons, List.map_nil, List.cons_append, List.nil_append, rep_0, rep_s, truD_bl, Bool.not_not, if_true_eq, if_false_eq, isStr, if_true, if_false, Bool.false_eq_true, eq_self, Bool.not_true]
      refine c_lost (parts := [N]) hw hN hR (fun P hP => by rw [List.mem_singleton.mp hP]; exact List.Sublist.refl N) ?_
      have e0 : cmpD .ne (enR (R.filter fun r => !ptl [N] R r.1 r.2)) (.tup []) = some false := by rw [lost_all hR]; rfl
      simp only [e0, wp_con, wp_loc, wp_bin, wp_neg, wp_not, wp_and, wp_or, wp_ite, wp_cmp, wp_chain, wp_tup, wp_lst, wp_call, wp_bi, wp_isi, wp_sub, wp_sli, wp_rev, wp_lc, wp_dct, wp_dc, wp_me, wp_glo, wps_nil, wps_cons, wpos_nil, wpos_cons, wpts_nil, wpts_cons, wpo_none, wpo_some, wxs_nil, wxs_cons, wx_set, wx_par, wx_tgt, wx_aug, wx_app, wx_ext, wx_sti, wx_dput, wx_exp, wx_ret, wx_ife, wx_for, wx_brk, wx_cnt, wx_pas, wx_fz, mkW_v, mkW_o, mkW_t, opt_some, asI_int, evV_0, evV_s, evL_0, evL_s, setO_f, setO_T, setO_l, frz_nil, frz_cons, List.getElem?_cons_zero, List.getElem?_cons_succ, List.set_cons_zero, List.set_cons_succ, ownL_0, ownL_s, ownD_0, ownD_s, setO_d, pairUp_nil, pairUp_cons, dPuts_nil, setOs_nil, setOs_cons, bindAll_nil, bindAll_cons, bindT_nm, bindT_tp, bindTs_nil, bindTs_cons, wipeE_nil, wipeE_cons, Option.bind_some, Option.map_some, ends, cl_args, List.map_cons, List.map_nil, List.cons_append, List.nil_append, rep_0, rep_s, truD_bl, Bool.not_not, if_true_eq, if_false_eq, isStr, if_true, if_false, Bool.false_eq_true, eq_self]
      exact t
theorem t9turn {w : Bool} {X : List Nm} (hw : 10 ≤ wn) (hN : NO N) (hR : RO N R) (hp : ∀ P ∈ parts, P.Sublist N) (hX : X.Sublist N) (uq : UpC Q)
    (hn : ∀ r, LeE (Rv (some (false, enP N)) (some (false, enR R)) (some (false, .tup (parts.map enP))) none (some (false, .lst ((seen N R parts).map enP))) none none) r → Q.nx r) :
    wfT (G wn (k + 10)) wn (.nm 10) b3_law (enP X) (Rv (some (false, enP N)) (some (false, enR R)) (some (false, .tup (parts.map enP))) none (some (w, .lst ((seen N R parts).map enP))) none none) Q := by
  have x5 := sub_len hN hX
  have n5 := hN.l5
  have go : wfT (G wn (k + 10)) wn (.nm 10) b3_law (enP X) (Rv (some (false, enP N)) (some (false, enR R)) (some (false, .tup (parts.map enP))) none (some (false, .lst ((seen N R parts).map enP))) none none) Q := by
    simp only [wfT, b3_law, Rv, wp_con, wp_loc, wp_bin, wp_neg, wp_not, wp_and, wp_or, wp_ite, wp_cmp, wp_chain, wp_tup, wp_lst, wp_call, wp_bi, wp_isi, wp_sub, wp_sli, wp_rev, wp_lc, wp_dct, wp_dc, wp_me, wp_glo, wps_nil, wps_cons, wpos_nil, wpos_cons, wpts_nil, wpts_cons, wpo_none, wpo_some, wxs_nil, wxs_cons, wx_set, wx_par, wx_tgt, wx_aug, wx_app, wx_ext, wx_sti, wx_dput, wx_exp, wx_ret, wx_ife, wx_for, wx_brk, wx_cnt, wx_pas, wx_fz, mkW_v, mkW_o, mkW_t, opt_some, asI_int, evV_0, evV_s, evL_0, evL_s, setO_f, setO_T, setO_l, frz_nil, frz_cons, List.getElem?_cons_zero, List.getElem?_cons_succ, List.set_cons_zero, List.set_cons_succ, ownL_0, ownL_s, ownD_0, ownD_s, setO_d, pairUp_nil, pairUp_cons, dPuts_nil, setOs_nil, setOs_cons, bindAll_nil, bindAll_cons, bindT_nm, bindT_tp, bindTs_nil, bindTs_cons, wipeE_nil, wipeE_cons, Option.bind_some, Option.map_some, ends, cl_args, List.map_cons, List.map_nil, List.cons_append, List.nil_append, rep_0, rep_s, truD_bl, Bool.not_not, if_true_eq, if_false_eq, isStr, if_true, if_false, Bool.false_eq_true, eq_self, it_P]
    refine wlc_filter (fun c => ptl parts R X c) D.str (fun c hc K' hK' => ?_) ?_
    · simp only [wlT, q6_law, wp_con, wp_loc, wp_bin, wp_neg, wp_not, wp_and, wp_or, wp_ite, wp_cmp, wp_chain, wp_tup, wp_lst, wp_call, wp_bi, wp_isi, wp_sub, wp_sli, wp_rev, wp_lc, wp_dct, wp_dc, wp_me, wp_glo, wps_nil, wps_cons, wpos_nil, wpos_cons, wpts_nil, wpts_cons, wpo_none, wpo_some, wxs_nil, wxs_cons, wx_set, wx_par, wx_tgt, wx_aug, wx_app, wx_ext, wx_sti, wx_dput, wx_exp, wx_ret, wx_ife, wx_for, wx_brk, wx_cnt, wx_pas, wx_fz, mkW_v, mkW_o, mkW_t, opt_some, asI_int, evV_0, evV_s, evL_0, evL_s, setO_f, setO_T, setO_l, frz_nil, frz_cons, List.getElem?_cons_zero, List.getElem?_cons_succ, List.set_cons_zero, List.set_cons_succ, ownL_0, ownL_s, ownD_0, ownD_s, setO_d, pairUp_nil, pairUp_cons, dPuts_nil, setOs_nil, setOs_cons, bindAll_nil, bindAll_cons, bindT_nm, bindT_tp, bindTs_nil, bindTs_cons, wipeE_nil, wipeE_cons, Option.bind_some, Option.map_some, ends, cl_args, List.map_cons, List.map_nil, List.cons_append, List.nil_append, rep_0, rep_s, truD_bl, Bool.not_not, if_true_eq, if_false_eq, isStr, if_true, if_false, Bool.false_eq_true, eq_self]
      refine c_law_tells ?_
      rw [tells_seen hN hR hp hX hc]
      try simp only [wp_con, wp_loc, wp_bin, wp_neg, wp_not, wp_and, wp_or, wp_ite, wp_cmp, wp_chain, wp_tup, wp_lst, wp_call, wp_bi, wp_isi, wp_sub, wp_sli, wp_rev, wp_lc, wp_dct, wp_dc, wp_me, wp_glo, wps_nil, wps_cons, wpos_nil, wpos_cons, wpts_nil, wpts_cons, wpo_none, wpo_some, wxs_nil, wxs_cons, wx_set, wx_par, wx_tgt, wx_aug, wx_app, wx_ext, wx_sti, wx_dput, wx_exp, wx_ret, wx_ife, wx_for, wx_brk, wx_cnt, wx_pas, wx_fz, mkW_v, mkW_o, mkW_t, opt_some, asI_int, evV_0, evV_s, evL_0, evL_s, setO_f, setO_T, setO_l, frz_nil, frz_cons, List.getElem?_cons_zero, List.getElem?_cons_succ, List.set_cons_zero, List.set_cons_succ, ownL_0, ownL_s, ownD_0, ownD_s, setO_d, pairUp_nil, pairUp_cons, dPuts_nil, setOs_nil, setOs_cons, bindAll_nil, bindAll_cons, bindT_nm, bindT_tp, bindTs_nil, bindTs_cons, wipeE_nil, wipeE_cons, Option.bind_some, Option.map_some, ends, cl_args, List.map_cons, List.map_nil, List.cons_append, List.nil_append, rep_0, rep_s, truD_bl, Bool.not_not, if_true_eq, if_false_eq, isStr, if_true, if_false, Bool.false_eq_true, eq_self]
      cases hb : ptl parts R X c with
      | true =>
        rw [hb] at hK'
        simp only [wp_con, wp_loc, wp_bin, wp_neg, wp_not, wp_and, wp_or, wp_ite, wp_cmp, wp_chain, wp_tup, wp_lst, wp_call, wp_bi, wp_isi, wp_sub, wp_sli, wp_rev, wp_lc, wp_dct, wp_dc, wp_me, wp_glo, wps_nil, wps_cons, wpos_nil, wpos_cons, wpts_nil, wpts_cons, wpo_none, wpo_some, wxs_nil, wxs_cons, wx_set, wx_par, wx_tgt, wx_aug, wx_app, wx_ext, wx_sti, wx_dput, wx_exp, wx_ret, wx_ife, wx_for, wx_brk, wx_cnt, wx_pas, wx_fz, mkW_v, mkW_o, mkW_t, opt_some, asI_int, evV_0, evV_s, evL_0, evL_s, setO_f, setO_T, setO_l, frz_nil, frz_cons, List.getElem?_cons_zero, List.getElem?_cons_succ, List.set_cons_zero, List.set_cons_succ, ownL_0, ownL_s, ownD_0, ownD_s, setO_d, pairUp_nil, pairUp_cons, dPuts_nil, setOs_nil, setOs_cons, bindAll_nil, bindAll_cons, bindT_nm, bindT_tp, bindTs_nil, bindTs_cons, wipeE_nil, wipeE_cons, Option.bind_some, Option.map_some, ends, cl_args, List.map_cons, List.map_nil, List.cons_append, List.nil_append, rep_0, rep_s, truD_bl, Bool.not_not, if_true_eq, if_false_eq, isStr, if_true, if_false, Bool.false_eq_true, eq_self, e9_law]
        exact hK'
      | false =>
        rw [hb] at hK'
        try simp only [wp_con, wp_loc, wp_bin, wp_neg, wp_not, wp_and, wp_or, wp_ite, wp_cmp, wp_chain, wp_tup, wp_lst, wp_call, wp_bi, wp_isi, wp_sub, wp_sli, wp_rev, wp_lc, wp_dct, wp_dc, wp_me, wp_glo, wps_nil, wps_cons, wpos_nil, wpos_cons, wpts_nil, wpts_cons, wpo_none, wpo_some, wxs_nil, wxs_cons, wx_set, wx_par, wx_tgt, wx_aug, wx_app, wx_ext, wx_sti, wx_dput, wx_exp, wx_ret, wx_ife, wx_for, wx_brk, wx_cnt, wx_pas, wx_fz, mkW_v, mkW_o, mkW_t, opt_some, asI_int, evV_0, evV_s, evL_0, evL_s, setO_f, setO_T, setO_l, frz_nil, frz_cons, List.getElem?_cons_zero, List.getElem?_cons_succ, List.set_cons_zero, List.set_cons_succ, ownL_0, ownL_s, ownD_0, ownD_s, setO_d, pairUp_nil, pairUp_cons, dPuts_nil, setOs_nil, setOs_cons, bindAll_nil, bindAll_cons, bindT_nm, bindT_tp, bindTs_nil, bindTs_cons, wipeE_nil, wipeE_cons, Option.bind_some, Option.map_some, ends, cl_args, List.map_cons, List.map_nil, List.cons_append, List.nil_append, rep_0, rep_s, truD_bl, Bool.not_not, if_true_eq, if_false_eq, isStr, if_true, if_false, Bool.false_eq_true, eq_self]
        exact hK'
    · simp only [wp_con, wp_loc, wp_bin, wp_neg, wp_not, wp_and, wp_or, wp_ite, wp_cmp, wp_chain, wp_tup, wp_lst, wp_call, wp_bi, wp_isi, wp_sub, wp_sli, wp_rev, wp_lc, wp_dct, wp_dc, wp_me, wp_glo, wps_nil, wps_cons, wpos_nil, wpos_cons, wpts_nil, wpts_cons, wpo_none, wpo_some, wxs_nil, wxs_cons, wx_set, wx_par, wx_tgt, wx_aug, wx_app, wx_ext, wx_sti, wx_dput, wx_exp, wx_ret, wx_ife, wx_for, wx_brk, wx_cnt, wx_pas, wx_fz, mkW_v, mkW_o, mkW_t, opt_some, asI_int, evV_0, evV_s, evL_0, evL_s, setO_f, setO_T, setO_l, frz_nil, frz_cons, List.getElem?_cons_zero, List.getElem?_cons_succ, List.set_cons_zero, List.set_cons_succ, ownL_0, ownL_s, ownD_0, ownD_s, setO_d, pairUp_nil, pairUp_cons, dPuts_nil, setOs_nil, setOs_cons, bindAll_nil, bindAll_cons, bindT_nm, bindT_tp, bindTs_nil, bindTs_cons, wipeE_nil, wipeE_cons, Option.bind_some, Option.map_some, ends, cl_args, List.map_cons, List.map_nil, List.cons_append, List.nil_append, rep_0, rep_s, truD_bl, Bool.not_not, if_true_eq, if_false_eq, isStr, if_true, if_false, Bool.false_eq_true, eq_self, tuple_P, b3t1_law]
      refine c_told_by_parts hw hN hR hp hX ?_
      simp only [wp_con, wp_loc, wp_bin, wp_neg, wp_not, wp_and, wp_or, wp_ite, wp_cmp, wp_chain, wp_tup, wp_lst, wp_call, wp_bi, wp_isi, wp_sub, wp_sli, wp_rev, wp_lc, wp_dct, wp_dc, wp_me, wp_glo, wps_nil, wps_cons, wpos_nil, wpos_cons, wpts_nil, wpts_cons, wpo_none, wpo_some, wxs_nil, wxs_cons, wx_set, wx_par, wx_tgt, wx_aug, wx_app, wx_ext, wx_sti, wx_dput, wx_exp, wx_ret, wx_ife, wx_for, wx_brk, wx_cnt, wx_pas, wx_fz, mkW_v, mkW_o, mkW_t, opt_some, asI_int, evV_0, evV_s, evL_0, evL_s, setO_f, setO_T, setO_l, frz_nil, frz_cons, List.getElem?_cons_zero, List.getElem?_cons_succ, List.set_cons_zero, List.set_cons_succ, ownL_0, ownL_s, ownD_0, ownD_s, setO_d, pairUp_nil, pairUp_cons, dPuts_nil, setOs_nil, setOs_cons, bindAll_nil, bindAll_cons, bindT_nm, bindT_tp, bindTs_nil, bindTs_cons, wipeE_nil, wipeE_cons, Option.bind_some, Option.map_some, ends, cl_args, List.map_cons, List.map_nil, List.cons_append, List.nil_append, rep_0, rep_s, truD_bl, Bool.not_not, if_true_eq, if_false_eq, isStr, if_true, if_false, Bool.false_eq_true, eq_self, b3t2_law]
      have l1 : (N.filter (ptl parts R X)).length ≤ 5 := Nat.le_trans (List.length_filter_le ..) n5
      refine c_same 1 _ _ _ (ok_P (by omega)) (by decide) ?_
      simp only [wp_con, wp_loc, wp_bin, wp_neg, wp_not, wp_and, wp_or, wp_ite, wp_cmp, wp_chain, wp_tup, wp_lst, wp_call, wp_bi, wp_isi, wp_sub, wp_sli, wp_rev, wp_lc, wp_dct, wp_dc, wp_me, wp_glo, wps_nil, wps_cons, wpos_nil, wpos_cons, wpts_nil, wpts_cons, wpo_none, wpo_some, wxs_nil, wxs_cons, wx_set, wx_par, wx_tgt, wx_aug, wx_app, wx_ext, wx_sti, wx_dput, wx_exp, wx_ret, wx_ife, wx_for, wx_brk, wx_cnt, wx_pas, wx_fz, mkW_v, mkW_o, mkW_t, opt_some, asI_int, evV_0, evV_s, evL_0, evL_s, setO_f, setO_T, setO_l, frz_nil, frz_cons, List.getElem?_cons_zero, List.getElem?_cons_succ, List.set_cons_zero, List.set_cons_succ, ownL_0, ownL_s, ownD_0, ownD_s, setO_d, pairUp_nil, pairUp_cons, dPuts_nil, setOs_nil, setOs_cons, bindAll_nil, bindAll_cons, bindT_nm, bindT_tp, bindTs_nil, bindTs_cons, wipeE_nil, wipeE_cons, Option.bind_some, Option.map_some, ends, cl_args, List.map_cons, List.map_nil, List.cons_append, List.nil_append, rep_0, rep_s, truD_bl, Bool.not_not, if_true_eq, if_false_eq, isStr, if_true, if_false, Bool.false_eq_true, eq_self, Bool.not_true, it_P]
      refine wlc_all (fun _ => true) (fun c hc K' hK' => ?_) ?_
      · simp only [wlT, e10_law, wp_con, wp_loc, wp_bin, wp_neg, wp_not, wp_and, wp_or, wp_ite, wp_cmp, wp_chain, wp_tup, wp_lst, wp_call, wp_bi, wp_isi, wp_sub, wp_sli, wp_rev, wp_lc, wp_dct, wp_dc, wp_me, wp_glo, wps_nil, wps_cons, wpos_nil, wpos_cons, wpts_nil, wpts_cons, wpo_none, wpo_some, wxs_nil, wxs_cons, wx_set, wx_par, wx_tgt, wx_aug, wx_app, wx_ext, wx_sti, wx_dput, wx_exp, wx_ret, wx_ife, wx_for, wx_brk, wx_cnt, wx_pas, wx_fz, mkW_v, mkW_o, mkW_t, opt_some, asI_int, evV_0, evV_s, evL_0, evL_s, setO_f, setO_T, setO_l, frz_nil, frz_cons, List.getElem?_cons_zero, List.getElem?_cons_succ, List.set_cons_zero, List.set_cons_succ, ownL_0, ownL_s, ownD_0, ownD_s, setO_d, pairUp_nil, pairUp_cons, dPuts_nil, setOs_nil, setOs_cons, bindAll_nil, bindAll_cons, bindT_nm, bindT_tp, bindTs_nil, bindTs_cons, wipeE_nil, wipeE_cons, Option.bind_some, Option.map_some, ends, cl_args, List.map_cons, List.map_nil, List.cons_append, List.nil_append, rep_0, rep_s, truD_bl, Bool.not_not, if_true_eq, if_false_eq, isStr, if_true, if_false, Bool.false_eq_true, eq_self]
        refine c_told_names hw hN hR it_P hX ?_
        obtain ⟨c1, c2⟩ := List.mem_filter.mp hc
        simp only [wp_con, wp_loc, wp_bin, wp_neg, wp_not, wp_and, wp_or, wp_ite, wp_cmp, wp_chain, wp_tup, wp_lst, wp_call, wp_bi, wp_isi, wp_sub, wp_sli, wp_rev, wp_lc, wp_dct, wp_dc, wp_me, wp_glo, wps_nil, wps_cons, wpos_nil, wpos_cons, wpts_nil, wpts_cons, wpo_none, wpo_some, wxs_nil, wxs_cons, wx_set, wx_par, wx_tgt, wx_aug, wx_app, wx_ext, wx_sti, wx_dput, wx_exp, wx_ret, wx_ife, wx_for, wx_brk, wx_cnt, wx_pas, wx_fz, mkW_v, mkW_o, mkW_t, opt_some, asI_int, evV_0, evV_s, evL_0, evL_s, setO_f, setO_T, setO_l, frz_nil, frz_cons, List.getElem?_cons_zero, List.getElem?_cons_succ, List.set_cons_zero, List.set_cons_succ, ownL_0, ownL_s, ownD_0, ownD_s, setO_d, pairUp_nil, pairUp_cons, dPuts_nil, setOs_nil, setOs_cons, bindAll_nil, bindAll_cons, bindT_nm, bindT_tp, bindTs_nil, bindTs_cons, wipeE_nil, wipeE_cons, Option.bind_some, Option.map_some, ends, cl_args, List.map_cons, List.map_nil, List.cons_append, List.nil_append, rep_0, rep_s, truD_bl, Bool.not_not, if_true_eq, if_false_eq, isStr, if_true, if_false, Bool.false_eq_true, eq_self, in_P, tl_in c1, tl_iff.mpr (told_of_ptold (ptl_iff.mp c2))]
        exact hK'
      · have e : ((N.filter (ptl parts R X)).all fun _ => true) = true := List.all_eq_true.mpr fun _ _ => rfl
        simp only [e, wp_con, wp_loc, wp_bin, wp_neg, wp_not, wp_and, wp_or, wp_ite, wp_cmp, wp_chain, wp_tup, wp_lst, wp_call, wp_bi, wp_isi, wp_sub, wp_sli, wp_rev, wp_lc, wp_dct, wp_dc, wp_me, wp_glo, wps_nil, wps_cons, wpos_nil, wpos_cons, wpts_nil, wpts_cons, wpo_none, wpo_some, wxs_nil, wxs_cons, wx_set, wx_par, wx_tgt, wx_aug, wx_app, wx_ext, wx_sti, wx_dput, wx_exp, wx_ret, wx_ife, wx_for, wx_brk, wx_cnt, wx_pas, wx_fz, mkW_v, mkW_o, mkW_t, opt_some, asI_int, evV_0, evV_s, evL_0, evL_s, setO_f, setO_T, setO_l, frz_nil, frz_cons, List.getElem?_cons_zero, List.getElem?_cons_succ, List.set_cons_zero, List.set_cons_succ, ownL_0, ownL_s, ownD_0, ownD_s, setO_d, pairUp_nil, pairUp_cons, dPuts_nil, setOs_nil, setOs_cons, bindAll_nil, bindAll_cons, bindT_nm, bindT_tp, bindTs_nil, bindTs_cons, wipeE_nil, wipeE_cons, Option.bind_some, Option.map_some, ends, cl_args, List.map_cons, List.map_nil, List.cons_append, List.nil_append, rep_0, rep_s, truD_bl, Bool.not_not, if_true_eq, if_false_eq, isStr, if_true, if_false, Bool.false_eq_true, eq_self, Bool.not_true]
        exact hn _ (by try simp only [Rv]; (apply LeI.le; repeat (first | exact LeI.nil | apply LeI.s | apply LeI.n | apply LeI.r)))
  cases w with
  | false => exact go
  | true =>
    unfold wfT at go ⊢
    rw [bindT_nm, opt_some] at go ⊢
    exact wxs_fz (by rfl) go
theorem t7 (hw : 10 ≤ wn) (hN : NO N) (hR : RO N R) (r5 : R.length ≤ 5) (hp : ∀ P ∈ parts, P.Sublist N) (h4 : parts.length ≤ 4) (uq : UpC Q)
    (hn : ∀ r, LeE (Rv none none none none none none none) r → Q.nx r) :
    wxs (G wn (k + 10)) wn b6t6_law (Rv (some (false, enP N)) (some (false, enR R)) (some (false, .tup (parts.map enP))) none none none none) Q := by
  have sz : szL = 16777216 := rfl
  have n5 := hN.l5
  simp only [b6t6_law, Rv, wp_con, wp_loc, wp_bin, wp_neg, wp_not, wp_and, wp_or, wp_ite, wp_cmp, wp_chain, wp_tup, wp_lst, wp_call, wp_bi, wp_isi, wp_sub, wp_sli, wp_rev, wp_lc, wp_dct, wp_dc, wp_me, wp_glo, wps_nil, wps_cons, wpos_nil, wpos_cons, wpts_nil, wpts_cons, wpo_none, wpo_some, wxs_nil, wxs_cons, wx_set, wx_par, wx_tgt, wx_aug, wx_app, wx_ext, wx_sti, wx_dput, wx_exp, wx_ret, wx_ife, wx_for, wx_brk, wx_cnt, wx_pas, wx_fz, mkW_v, mkW_o, mkW_t, opt_some, asI_int, evV_0, evV_s, evL_0, evL_s, setO_f, setO_T, setO_l, frz_nil, frz_cons, List.getElem?_cons_zero, List.getElem?_cons_succ, List.set_cons_zero, List.set_cons_succ, ownL_0, ownL_s, ownD_0, ownD_s, setO_d, pairUp_nil, pairUp_cons, dPuts_nil, setOs_nil, setOs_cons, bindAll_nil, bindAll_cons, bindT_nm, bindT_tp, bindTs_nil, bindTs_cons, wipeE_nil, wipeE_cons, Option.bind_some, Option.map_some, ends, cl_args, List.map_cons, List.map_nil, List.cons_append, List.nil_append, rep_0, rep_s, truD_bl, Bool.not_not, if_true_eq, if_false_eq, isStr, if_true, if_false, Bool.false_eq_true, eq_self]
  refine c_law_whole hN ?_
  simp only [wp_con, wp_loc, wp_bin, wp_neg, wp_not, wp_and, wp_or, wp_ite, wp_cmp, wp_chain, wp_tup, wp_lst, wp_call, wp_bi, wp_isi, wp_sub, wp_sli, wp_rev, wp_lc, wp_dct, wp_dc, wp_me, wp_glo, wps_nil, wps_cons, wpos_nil, wpos_cons, wpts_nil, wpts_cons, wpo_none, wpo_some, wxs_nil, wxs_cons, wx_set, wx_par, wx_tgt, wx_aug, wx_app, wx_ext, wx_sti, wx_dput, wx_exp, wx_ret, wx_ife, wx_for, wx_brk, wx_cnt, wx_pas, wx_fz, mkW_v, mkW_o, mkW_t, opt_some, asI_int, evV_0, evV_s, evL_0, evL_s, setO_f, setO_T, setO_l, frz_nil, frz_cons, List.getElem?_cons_zero, List.getElem?_cons_succ, List.set_cons_zero, List.set_cons_succ, ownL_0, ownL_s, ownD_0, ownD_s, setO_d, pairUp_nil, pairUp_cons, dPuts_nil, setOs_nil, setOs_cons, bindAll_nil, bindAll_cons, bindT_nm, bindT_tp, bindTs_nil, bindTs_cons, wipeE_nil, wipeE_cons, Option.bind_some, Option.map_some, ends, cl_args, List.map_cons, List.map_nil, List.cons_append, List.nil_append, rep_0, rep_s, truD_bl, Bool.not_not, if_true_eq, if_false_eq, isStr, if_true, if_false, Bool.false_eq_true, eq_self, b6t7_law, b6t8_law]
  refine c_law_parts hN (List.Sublist.refl N) ?_
  simp only [itL]
  refine for_inv (fun (rest : List (List Nm)) r => ∃ dn, ap N = dn ++ rest ∧ r = Rv (some (false, enP N)) (some (false, enR R)) (some (false, .tup (parts.map enP))) (some (false, .lst ((wholes N R).map enP))) (some (true, .lst ((dn.filter (seenB N R parts)).map enP))) none none) ?_ ?_ ?_
  · exact ⟨[], rfl, rfl⟩
  · rintro z rest r ⟨dn, e, rfl⟩
    have el := congrArg List.length e
    rw [List.length_append, List.length_cons] at el
    have ll := ap_len n5
    have lf := List.length_filter_le (seenB N R parts) dn
    simp only [wfT, b2_law, Rv, wp_con, wp_loc, wp_bin, wp_neg, wp_not, wp_and, wp_or, wp_ite, wp_cmp, wp_chain, wp_tup, wp_lst, wp_call, wp_bi, wp_isi, wp_sub, wp_sli, wp_rev, wp_lc, wp_dct, wp_dc, wp_me, wp_glo, wps_nil, wps_cons, wpos_nil, wpos_cons, wpts_nil, wpts_cons, wpo_none, wpo_some, wxs_nil, wxs_cons, wx_set, wx_par, wx_tgt, wx_aug, wx_app, wx_ext, wx_sti, wx_dput, wx_exp, wx_ret, wx_ife, wx_for, wx_brk, wx_cnt, wx_pas, wx_fz, mkW_v, mkW_o, mkW_t, opt_some, asI_int, evV_0, evV_s, evL_0, evL_s, setO_f, setO_T, setO_l, frz_nil, frz_cons, List.getElem?_cons_zero, List.getElem?_cons_succ, List.set_cons_zero, List.set_cons_succ, ownL_0, ownL_s, ownD_0, ownD_s, setO_d, pairUp_nil, pairUp_cons, dPuts_nil, setOs_nil, setOs_cons, bindAll_nil, bindAll_cons, bindT_nm, bindT_tp, bindTs_nil, bindTs_cons, wipeE_nil, wipeE_cons, Option.bind_some, Option.map_some, ends, cl_args, List.map_cons, List.map_nil, List.cons_append, List.nil_append, rep_0, rep_s, truD_bl, Bool.not_not, if_true_eq, if_false_eq, isStr, if_true, if_false, Bool.false_eq_true, eq_self, itT]
    refine wlc_all (fun P => (wholes N R).any fun W => decide (inP P W = inP P z)) (fun P hP K' hK' => ?_) ?_
    · simp only [wlT, e8_law, wp_con, wp_loc, wp_bin, wp_neg, wp_not, wp_and, wp_or, wp_ite, wp_cmp, wp_chain, wp_tup, wp_lst, wp_call, wp_bi, wp_isi, wp_sub, wp_sli, wp_rev, wp_lc, wp_dct, wp_dc, wp_me, wp_glo, wps_nil, wps_cons, wpos_nil, wpos_cons, wpts_nil, wpts_cons, wpo_none, wpo_some, wxs_nil, wxs_cons, wx_set, wx_par, wx_tgt, wx_aug, wx_app, wx_ext, wx_sti, wx_dput, wx_exp, wx_ret, wx_ife, wx_for, wx_brk, wx_cnt, wx_pas, wx_fz, mkW_v, mkW_o, mkW_t, opt_some, asI_int, evV_0, evV_s, evL_0, evL_s, setO_f, setO_T, setO_l, frz_nil, frz_cons, List.getElem?_cons_zero, List.getElem?_cons_succ, List.set_cons_zero, List.set_cons_succ, ownL_0, ownL_s, ownD_0, ownD_s, setO_d, pairUp_nil, pairUp_cons, dPuts_nil, setOs_nil, setOs_cons, bindAll_nil, bindAll_cons, bindT_nm, bindT_tp, bindTs_nil, bindTs_cons, wipeE_nil, wipeE_cons, Option.bind_some, Option.map_some, ends, cl_args, List.map_cons, List.map_nil, List.cons_append, List.nil_append, rep_0, rep_s, truD_bl, Bool.not_not, if_true_eq, if_false_eq, isStr, if_true, if_false, Bool.false_eq_true, eq_self, itL]
      refine wlc_any (fun W => decide (inP P W = inP P z)) (fun W hW K' hK' => ?_) ?_
      · simp only [wlT, e7_law, wp_con, wp_loc, wp_bin, wp_neg, wp_not, wp_and, wp_or, wp_ite, wp_cmp, wp_chain, wp_tup, wp_lst, wp_call, wp_bi, wp_isi, wp_sub, wp_sli, wp_rev, wp_lc, wp_dct, wp_dc, wp_me, wp_glo, wps_nil, wps_cons, wpos_nil, wpos_cons, wpts_nil, wpts_cons, wpo_none, wpo_some, wxs_nil, wxs_cons, wx_set, wx_par, wx_tgt, wx_aug, wx_app, wx_ext, wx_sti, wx_dput, wx_exp, wx_ret, wx_ife, wx_for, wx_brk, wx_cnt, wx_pas, wx_fz, mkW_v, mkW_o, mkW_t, opt_some, asI_int, evV_0, evV_s, evL_0, evL_s, setO_f, setO_T, setO_l, frz_nil, frz_cons, List.getElem?_cons_zero, List.getElem?_cons_succ, List.set_cons_zero, List.set_cons_succ, ownL_0, ownL_s, ownD_0, ownD_s, setO_d, pairUp_nil, pairUp_cons, dPuts_nil, setOs_nil, setOs_cons, bindAll_nil, bindAll_cons, bindT_nm, bindT_tp, bindTs_nil, bindTs_cons, wipeE_nil, wipeE_cons, Option.bind_some, Option.map_some, ends, cl_args, List.map_cons, List.map_nil, List.cons_append, List.nil_append, rep_0, rep_s, truD_bl, Bool.not_not, if_true_eq, if_false_eq, isStr, if_true, if_false, Bool.false_eq_true, eq_self, it_P]
        refine wlc_filter (fun x => decide (x ∈ P)) D.str (fun x hx K'' hK'' => ?_) ?_
        · simp only [wlT, q4_law, e5_law, wp_con, wp_loc, wp_bin, wp_neg, wp_not, wp_and, wp_or, wp_ite, wp_cmp, wp_chain, wp_tup, wp_lst, wp_call, wp_bi, wp_isi, wp_sub, wp_sli, wp_rev, wp_lc, wp_dct, wp_dc, wp_me, wp_glo, wps_nil, wps_cons, wpos_nil, wpos_cons, wpts_nil, wpts_cons, wpo_none, wpo_some, wxs_nil, wxs_cons, wx_set, wx_par, wx_tgt, wx_aug, wx_app, wx_ext, wx_sti, wx_dput, wx_exp, wx_ret, wx_ife, wx_for, wx_brk, wx_cnt, wx_pas, wx_fz, mkW_v, mkW_o, mkW_t, opt_some, asI_int, evV_0, evV_s, evL_0, evL_s, setO_f, setO_T, setO_l, frz_nil, frz_cons, List.getElem?_cons_zero, List.getElem?_cons_succ, List.set_cons_zero, List.set_cons_succ, ownL_0, ownL_s, ownD_0, ownD_s, setO_d, pairUp_nil, pairUp_cons, dPuts_nil, setOs_nil, setOs_cons, bindAll_nil, bindAll_cons, bindT_nm, bindT_tp, bindTs_nil, bindTs_cons, wipeE_nil, wipeE_cons, Option.bind_some, Option.map_some, ends, cl_args, List.map_cons, List.map_nil, List.cons_append, List.nil_append, rep_0, rep_s, truD_bl, Bool.not_not, if_true_eq, if_false_eq, isStr, if_true, if_false, Bool.false_eq_true, eq_self, in_P]
          cases hb : decide (x ∈ P) with
          | true => rw [hb] at hK''; try simp only [wp_con, wp_loc, wp_bin, wp_neg, wp_not, wp_and, wp_or, wp_ite, wp_cmp, wp_chain, wp_tup, wp_lst, wp_call, wp_bi, wp_isi, wp_sub, wp_sli, wp_rev, wp_lc, wp_dct, wp_dc, wp_me, wp_glo, wps_nil, wps_cons, wpos_nil, wpos_cons, wpts_nil, wpts_cons, wpo_none, wpo_some, wxs_nil, wxs_cons, wx_set, wx_par, wx_tgt, wx_aug, wx_app, wx_ext, wx_sti, wx_dput, wx_exp, wx_ret, wx_ife, wx_for, wx_brk, wx_cnt, wx_pas, wx_fz, mkW_v, mkW_o, mkW_t, opt_some, asI_int, evV_0, evV_s, evL_0, evL_s, setO_f, setO_T, setO_l, frz_nil, frz_cons, List.getElem?_cons_zero, List.getElem?_cons_succ, List.set_cons_zero, List.set_cons_succ, ownL_0, ownL_s, ownD_0, ownD_s, setO_d, pairUp_nil, pairUp_cons, dPuts_nil, setOs_nil, setOs_cons, bindAll_nil, bindAll_cons, bindT_nm, bindT_tp, bindTs_nil, bindTs_cons, wipeE_nil, wipeE_cons, Option.bind_some, Option.map_some, ends, cl_args, List.map_cons, List.map_nil, List.cons_append, List.nil_append, rep_0, rep_s, truD_bl, Bool.not_not, if_true_eq, if_false_eq, isStr, if_true, if_false, Bool.false_eq_true, eq_self]; exact hK''
          | false => rw [hb] at hK''; try simp only [wp_con, wp_loc, wp_bin, wp_neg, wp_not, wp_and, wp_or, wp_ite, wp_cmp, wp_chain, wp_tup, wp_lst, wp_call, wp_bi, wp_isi, wp_sub, wp_sli, wp_rev, wp_lc, wp_dct, wp_dc, wp_me, wp_glo, wps_nil, wps_cons, wpos_nil, wpos_cons, wpts_nil, wpts_cons, wpo_none, wpo_some, wxs_nil, wxs_cons, wx_set, wx_par, wx_tgt, wx_aug, wx_app, wx_ext, wx_sti, wx_dput, wx_exp, wx_ret, wx_ife, wx_for, wx_brk, wx_cnt, wx_pas, wx_fz, mkW_v, mkW_o, mkW_t, opt_some, asI_int, evV_0, evV_s, evL_0, evL_s, setO_f, setO_T, setO_l, frz_nil, frz_cons, List.getElem?_cons_zero, List.getElem?_cons_succ, List.set_cons_zero, List.set_cons_succ, ownL_0, ownL_s, ownD_0, ownD_s, setO_d, pairUp_nil, pairUp_cons, dPuts_nil, setOs_nil, setOs_cons, bindAll_nil, bindAll_cons, bindT_nm, bindT_tp, bindTs_nil, bindTs_cons, wipeE_nil, wipeE_cons, Option.bind_some, Option.map_some, ends, cl_args, List.map_cons, List.map_nil, List.cons_append, List.nil_append, rep_0, rep_s, truD_bl, Bool.not_not, if_true_eq, if_false_eq, isStr, if_true, if_false, Bool.false_eq_true, eq_self]; exact hK''
        · refine wlc_filter (fun x => decide (x ∈ P)) D.str (fun x hx K'' hK'' => ?_) ?_
          · simp only [wlT, q5_law, e6_law, wp_con, wp_loc, wp_bin, wp_neg, wp_not, wp_and, wp_or, wp_ite, wp_cmp, wp_chain, wp_tup, wp_lst, wp_call, wp_bi, wp_isi, wp_sub, wp_sli, wp_rev, wp_lc, wp_dct, wp_dc, wp_me, wp_glo, wps_nil, wps_cons, wpos_nil, wpos_cons, wpts_nil, wpts_cons, wpo_none, wpo_some, wxs_nil, wxs_cons, wx_set, wx_par, wx_tgt, wx_aug, wx_app, wx_ext, wx_sti, wx_dput, wx_exp, wx_ret, wx_ife, wx_for, wx_brk, wx_cnt, wx_pas, wx_fz, mkW_v, mkW_o, mkW_t, opt_some, asI_int, evV_0, evV_s, evL_0, evL_s, setO_f, setO_T, setO_l, frz_nil, frz_cons, List.getElem?_cons_zero, List.getElem?_cons_succ, List.set_cons_zero, List.set_cons_succ, ownL_0, ownL_s, ownD_0, ownD_s, setO_d, pairUp_nil, pairUp_cons, dPuts_nil, setOs_nil, setOs_cons, bindAll_nil, bindAll_cons, bindT_nm, bindT_tp, bindTs_nil, bindTs_cons, wipeE_nil, wipeE_cons, Option.bind_some, Option.map_some, ends, cl_args, List.map_cons, List.map_nil, List.cons_append, List.nil_append, rep_0, rep_s, truD_bl, Bool.not_not, if_true_eq, if_false_eq, isStr, if_true, if_false, Bool.false_eq_true, eq_self, in_P]
            cases hb : decide (x ∈ P) with
            | true => rw [hb] at hK''; try simp only [wp_con, wp_loc, wp_bin, wp_neg, wp_not, wp_and, wp_or, wp_ite, wp_cmp, wp_chain, wp_tup, wp_lst, wp_call, wp_bi, wp_isi, wp_sub, wp_sli, wp_rev, wp_lc, wp_dct, wp_dc, wp_me, wp_glo, wps_nil, wps_cons, wpos_nil, wpos_cons, wpts_nil, wpts_cons, wpo_none, wpo_some, wxs_nil, wxs_cons, wx_set, wx_par, wx_tgt, wx_aug, wx_app, wx_ext, wx_sti, wx_dput, wx_exp, wx_ret, wx_ife, wx_for, wx_brk, wx_cnt, wx_pas, wx_fz, mkW_v, mkW_o, mkW_t, opt_some, asI_int, evV_0, evV_s, evL_0, evL_s, setO_f, setO_T, setO_l, frz_nil, frz_cons, List.getElem?_cons_zero, List.getElem?_cons_succ, List.set_cons_zero, List.set_cons_succ, ownL_0, ownL_s, ownD_0, ownD_s, setO_d, pairUp_nil, pairUp_cons, dPuts_nil, setOs_nil, setOs_cons, bindAll_nil, bindAll_cons, bindT_nm, bindT_tp, bindTs_nil, bindTs_cons, wipeE_nil, wipeE_cons, Option.bind_some, Option.map_some, ends, cl_args, List.map_cons, List.map_nil, List.cons_append, List.nil_append, rep_0, rep_s, truD_bl, Bool.not_not, if_true_eq, if_false_eq, isStr, if_true, if_false, Bool.false_eq_true, eq_self]; exact hK''
            | false => rw [hb] at hK''; try simp only [wp_con, wp_loc, wp_bin, wp_neg, wp_not, wp_and, wp_or, wp_ite, wp_cmp, wp_chain, wp_tup, wp_lst, wp_call, wp_bi, wp_isi, wp_sub, wp_sli, wp_rev, wp_lc, wp_dct, wp_dc, wp_me, wp_glo, wps_nil, wps_cons, wpos_nil, wpos_cons, wpts_nil, wpts_cons, wpo_none, wpo_some, wxs_nil, wxs_cons, wx_set, wx_par, wx_tgt, wx_aug, wx_app, wx_ext, wx_sti, wx_dput, wx_exp, wx_ret, wx_ife, wx_for, wx_brk, wx_cnt, wx_pas, wx_fz, mkW_v, mkW_o, mkW_t, opt_some, asI_int, evV_0, evV_s, evL_0, evL_s, setO_f, setO_T, setO_l, frz_nil, frz_cons, List.getElem?_cons_zero, List.getElem?_cons_succ, List.set_cons_zero, List.set_cons_succ, ownL_0, ownL_s, ownD_0, ownD_s, setO_d, pairUp_nil, pairUp_cons, dPuts_nil, setOs_nil, setOs_cons, bindAll_nil, bindAll_cons, bindT_nm, bindT_tp, bindTs_nil, bindTs_cons, wipeE_nil, wipeE_cons, Option.bind_some, Option.map_some, ends, cl_args, List.map_cons, List.map_nil, List.cons_append, List.nil_append, rep_0, rep_s, truD_bl, Bool.not_not, if_true_eq, if_false_eq, isStr, if_true, if_false, Bool.false_eq_true, eq_self]; exact hK''
          · have ce : cmpD .eq (.lst ((W.filter fun x => decide (x ∈ P)).map D.str)) (.lst ((z.filter fun x => decide (x ∈ P)).map D.str)) = some (decide (inP P W = inP P z)) := En_str.ceqL _ _
            simp only [wp_con, wp_loc, wp_bin, wp_neg, wp_not, wp_and, wp_or, wp_ite, wp_cmp, wp_chain, wp_tup, wp_lst, wp_call, wp_bi, wp_isi, wp_sub, wp_sli, wp_rev, wp_lc, wp_dct, wp_dc, wp_me, wp_glo, wps_nil, wps_cons, wpos_nil, wpos_cons, wpts_nil, wpts_cons, wpo_none, wpo_some, wxs_nil, wxs_cons, wx_set, wx_par, wx_tgt, wx_aug, wx_app, wx_ext, wx_sti, wx_dput, wx_exp, wx_ret, wx_ife, wx_for, wx_brk, wx_cnt, wx_pas, wx_fz, mkW_v, mkW_o, mkW_t, opt_some, asI_int, evV_0, evV_s, evL_0, evL_s, setO_f, setO_T, setO_l, frz_nil, frz_cons, List.getElem?_cons_zero, List.getElem?_cons_succ, List.set_cons_zero, List.set_cons_succ, ownL_0, ownL_s, ownD_0, ownD_s, setO_d, pairUp_nil, pairUp_cons, dPuts_nil, setOs_nil, setOs_cons, bindAll_nil, bindAll_cons, bindT_nm, bindT_tp, bindTs_nil, bindTs_cons, wipeE_nil, wipeE_cons, Option.bind_some, Option.map_some, ends, cl_args, List.map_cons, List.map_nil, List.cons_append, List.nil_append, rep_0, rep_s, truD_bl, Bool.not_not, if_true_eq, if_false_eq, isStr, if_true, if_false, Bool.false_eq_true, eq_self, ce]
            exact hK'
      · try simp only [wp_con, wp_loc, wp_bin, wp_neg, wp_not, wp_and, wp_or, wp_ite, wp_cmp, wp_chain, wp_tup, wp_lst, wp_call, wp_bi, wp_isi, wp_sub, wp_sli, wp_rev, wp_lc, wp_dct, wp_dc, wp_me, wp_glo, wps_nil, wps_cons, wpos_nil, wpos_cons, wpts_nil, wpts_cons, wpo_none, wpo_some, wxs_nil, wxs_cons, wx_set, wx_par, wx_tgt, wx_aug, wx_app, wx_ext, wx_sti, wx_dput, wx_exp, wx_ret, wx_ife, wx_for, wx_brk, wx_cnt, wx_pas, wx_fz, mkW_v, mkW_o, mkW_t, opt_some, asI_int, evV_0, evV_s, evL_0, evL_s, setO_f, setO_T, setO_l, frz_nil, frz_cons, List.getElem?_cons_zero, List.getElem?_cons_succ, List.set_cons_zero, List.set_cons_succ, ownL_0, ownL_s, ownD_0, ownD_s, setO_d, pairUp_nil, pairUp_cons, dPuts_nil, setOs_nil, setOs_cons, bindAll_nil, bindAll_cons, bindT_nm, bindT_tp, bindTs_nil, bindTs_cons, wipeE_nil, wipeE_cons, Option.bind_some, Option.map_some, ends, cl_args, List.map_cons, List.map_nil, List.cons_append, List.nil_append, rep_0, rep_s, truD_bl, Bool.not_not, if_true_eq, if_false_eq, isStr, if_true, if_false, Bool.false_eq_true, eq_self]
        exact hK'
    · try simp only [wp_con, wp_loc, wp_bin, wp_neg, wp_not, wp_and, wp_or, wp_ite, wp_cmp, wp_chain, wp_tup, wp_lst, wp_call, wp_bi, wp_isi, wp_sub, wp_sli, wp_rev, wp_lc, wp_dct, wp_dc, wp_me, wp_glo, wps_nil, wps_cons, wpos_nil, wpos_cons, wpts_nil, wpts_cons, wpo_none, wpo_some, wxs_nil, wxs_cons, wx_set, wx_par, wx_tgt, wx_aug, wx_app, wx_ext, wx_sti, wx_dput, wx_exp, wx_ret, wx_ife, wx_for, wx_brk, wx_cnt, wx_pas, wx_fz, mkW_v, mkW_o, mkW_t, opt_some, asI_int, evV_0, evV_s, evL_0, evL_s, setO_f, setO_T, setO_l, frz_nil, frz_cons, List.getElem?_cons_zero, List.getElem?_cons_succ, List.set_cons_zero, List.set_cons_succ, ownL_0, ownL_s, ownD_0, ownD_s, setO_d, pairUp_nil, pairUp_cons, dPuts_nil, setOs_nil, setOs_cons, bindAll_nil, bindAll_cons, bindT_nm, bindT_tp, bindTs_nil, bindTs_cons, wipeE_nil, wipeE_cons, Option.bind_some, Option.map_some, ends, cl_args, List.map_cons, List.map_nil, List.cons_append, List.nil_append, rep_0, rep_s, truD_bl, Bool.not_not, if_true_eq, if_false_eq, isStr, if_true, if_false, Bool.false_eq_true, eq_self]
      have eb : (parts.all fun P => (wholes N R).any fun W => decide (inP P W = inP P z)) = seenB N R parts z := rfl
      rw [eb]
      cases hb : seenB N R parts z with
      | true =>
        try simp only [wp_con, wp_loc, wp_bin, wp_neg, wp_not, wp_and, wp_or, wp_ite, wp_cmp, wp_chain, wp_tup, wp_lst, wp_call, wp_bi, wp_isi, wp_sub, wp_sli, wp_rev, wp_lc, wp_dct, wp_dc, wp_me, wp_glo, wps_nil, wps_cons, wpos_nil, wpos_cons, wpts_nil, wpts_cons, wpo_none, wpo_some, wxs_nil, wxs_cons, wx_set, wx_par, wx_tgt, wx_aug, wx_app, wx_ext, wx_sti, wx_dput, wx_exp, wx_ret, wx_ife, wx_for, wx_brk, wx_cnt, wx_pas, wx_fz, mkW_v, mkW_o, mkW_t, opt_some, asI_int, evV_0, evV_s, evL_0, evL_s, setO_f, setO_T, setO_l, frz_nil, frz_cons, List.getElem?_cons_zero, List.getElem?_cons_succ, List.set_cons_zero, List.set_cons_succ, ownL_0, ownL_s, ownD_0, ownD_s, setO_d, pairUp_nil, pairUp_cons, dPuts_nil, setOs_nil, setOs_cons, bindAll_nil, bindAll_cons, bindT_nm, bindT_tp, bindTs_nil, bindTs_cons, wipeE_nil, wipeE_cons, Option.bind_some, Option.map_some, ends, cl_args, List.map_cons, List.map_nil, List.cons_append, List.nil_append, rep_0, rep_s, truD_bl, Bool.not_not, if_true_eq, if_false_eq, isStr, if_true, if_false, Bool.false_eq_true, eq_self]
        refine ⟨by rw [List.length_map]; omega, _, ?_, dn ++ [z], by rw [e]; simp, rfl⟩
        rw [List.filter_append, List.filter_cons_of_pos hb, List.filter_nil, List.map_append]
        try simp only [Rv]
        (apply LeI.le; repeat (first | exact LeI.nil | apply LeI.s | apply LeI.n | apply LeI.r))
      | false =>
        try simp only [wp_con, wp_loc, wp_bin, wp_neg, wp_not, wp_and, wp_or, wp_ite, wp_cmp, wp_chain, wp_tup, wp_lst, wp_call, wp_bi, wp_isi, wp_sub, wp_sli, wp_rev, wp_lc, wp_dct, wp_dc, wp_me, wp_glo, wps_nil, wps_cons, wpos_nil, wpos_cons, wpts_nil, wpts_cons, wpo_none, wpo_some, wxs_nil, wxs_cons, wx_set, wx_par, wx_tgt, wx_aug, wx_app, wx_ext, wx_sti, wx_dput, wx_exp, wx_ret, wx_ife, wx_for, wx_brk, wx_cnt, wx_pas, wx_fz, mkW_v, mkW_o, mkW_t, opt_some, asI_int, evV_0, evV_s, evL_0, evL_s, setO_f, setO_T, setO_l, frz_nil, frz_cons, List.getElem?_cons_zero, List.getElem?_cons_succ, List.set_cons_zero, List.set_cons_succ, ownL_0, ownL_s, ownD_0, ownD_s, setO_d, pairUp_nil, pairUp_cons, dPuts_nil, setOs_nil, setOs_cons, bindAll_nil, bindAll_cons, bindT_nm, bindT_tp, bindTs_nil, bindTs_cons, wipeE_nil, wipeE_cons, Option.bind_some, Option.map_some, ends, cl_args, List.map_cons, List.map_nil, List.cons_append, List.nil_append, rep_0, rep_s, truD_bl, Bool.not_not, if_true_eq, if_false_eq, isStr, if_true, if_false, Bool.false_eq_true, eq_self]
        refine ⟨_, ?_, dn ++ [z], by rw [e]; simp, rfl⟩
        rw [List.filter_append, List.filter_cons_of_neg (by rw [hb]; decide), List.filter_nil, List.append_nil]
        try simp only [Rv]
        (apply LeI.le; repeat (first | exact LeI.nil | apply LeI.s | apply LeI.n | apply LeI.r))
  · rintro r ⟨dn, e, rfl⟩
    have e' : ap N = dn := by simpa using e
    subst e'
    have es : (ap N).filter (seenB N R parts) = seen N R parts := rfl
    rw [es]
    simp only [b6t9_law, Rv, wp_con, wp_loc, wp_bin, wp_neg, wp_not, wp_and, wp_or, wp_ite, wp_cmp, wp_chain, wp_tup, wp_lst, wp_call, wp_bi, wp_isi, wp_sub, wp_sli, wp_rev, wp_lc, wp_dct, wp_dc, wp_me, wp_glo, wps_nil, wps_cons, wpos_nil, wpos_cons, wpts_nil, wpts_cons, wpo_none, wpo_some, wxs_nil, wxs_cons, wx_set, wx_par, wx_tgt, wx_aug, wx_app, wx_ext, wx_sti, wx_dput, wx_exp, wx_ret, wx_ife, wx_for, wx_brk, wx_cnt, wx_pas, wx_fz, mkW_v, mkW_o, mkW_t, opt_some, asI_int, evV_0, evV_s, evL_0, evL_s, setO_f, setO_T, setO_l, frz_nil, frz_cons, List.getElem?_cons_zero, List.getElem?_cons_succ, List.set_cons_zero, List.set_cons_succ, ownL_0, ownL_s, ownD_0, ownD_s, setO_d, pairUp_nil, pairUp_cons, dPuts_nil, setOs_nil, setOs_cons, bindAll_nil, bindAll_cons, bindT_nm, bindT_tp, bindTs_nil, bindTs_cons, wipeE_nil, wipeE_cons, Option.bind_some, Option.map_some, ends, cl_args, List.map_cons, List.map_nil, List.cons_append, List.nil_append, rep_0, rep_s, truD_bl, Bool.not_not, if_true_eq, if_false_eq, isStr, if_true, if_false, Bool.false_eq_true, eq_self]
    refine c_law_parts hN (List.Sublist.refl N) ?_
    simp only [itL]
    refine wfor_less (upc_seq uq) (r := Rv (some (false, enP N)) (some (false, enR R)) (some (false, .tup (parts.map enP))) none (some (true, .lst ((seen N R parts).map enP))) none none) (by try simp only [Rv]; (apply LeI.le; repeat (first | exact LeI.nil | apply LeI.s | apply LeI.n | apply LeI.r))) ?_
    refine for_inv (fun (rest : List (List Nm)) r => ∃ w, (∀ X ∈ rest, X ∈ ap N) ∧ r = Rv (some (false, enP N)) (some (false, enR R)) (some (false, .tup (parts.map enP))) none (some (w, .lst ((seen N R parts).map enP))) none none) ?_ ?_ ?_
    · exact ⟨true, fun _ h => h, rfl⟩
    · rintro X rest r ⟨w, hx, rfl⟩
      refine t9turn hw hN hR hp (mem_ap.mp (hx X List.mem_cons_self)) (upc_turn fun h => (upc_seq uq).nx h) fun r hr => ⟨_, hr, false, fun Y hY => hx Y (List.mem_cons_of_mem _ hY), rfl⟩
    · rintro r ⟨w, _, rfl⟩
      exact t10 hw hN hR r5 hp h4 uq hn
/-- one turn of the law -/
theorem turn_law {z : D} (hw : 10 ≤ wn) (uq : UpC Q) (hn : ∀ r, LeE (Rv none none none none none none none) r → Q.nx r) :
    wfT (G wn (k + 10)) wn (.nm 2) b6_law z (Rv none none none none none none none) Q := by
  have sz : szL = 16777216 := rfl
  unfold wfT
  rw [bindT_nm, opt_some]
  refine wxs_less uq (r := Rv none none none none none none none) (by simp only [Rv, wp_con, wp_loc, wp_bin, wp_neg, wp_not, wp_and, wp_or, wp_ite, wp_cmp, wp_chain, wp_tup, wp_lst, wp_call, wp_bi, wp_isi, wp_sub, wp_sli, wp_rev, wp_lc, wp_dct, wp_dc, wp_me, wp_glo, wps_nil, wps_cons, wpos_nil, wpos_cons, wpts_nil, wpts_cons, wpo_none, wpo_some, wxs_nil, wxs_cons, wx_set, wx_par, wx_tgt, wx_aug, wx_app, wx_ext, wx_sti, wx_dput, wx_exp, wx_ret, wx_ife, wx_for, wx_brk, wx_cnt, wx_pas, wx_fz, mkW_v, mkW_o, mkW_t, opt_some, asI_int, evV_0, evV_s, evL_0, evL_s, setO_f, setO_T, setO_l, frz_nil, frz_cons, List.getElem?_cons_zero, List.getElem?_cons_succ, List.set_cons_zero, List.set_cons_succ, ownL_0, ownL_s, ownD_0, ownD_s, setO_d, pairUp_nil, pairUp_cons, dPuts_nil, setOs_nil, setOs_cons, bindAll_nil, bindAll_cons, bindT_nm, bindT_tp, bindTs_nil, bindTs_cons, wipeE_nil, wipeE_cons, Option.bind_some, Option.map_some, ends, cl_args, List.map_cons, List.map_nil, List.cons_append, List.nil_append, rep_0, rep_s, truD_bl, Bool.not_not, if_true_eq, if_false_eq, isStr, if_true, if_false, Bool.false_eq_true, eq_self]; (apply LeI.le; repeat (first | exact LeI.nil | apply LeI.s | apply LeI.n | apply LeI.r))) ?_
  simp only [b6_law, Rv, wp_con, wp_loc, wp_bin, wp_neg, wp_not, wp_and, wp_or, wp_ite, wp_cmp, wp_chain, wp_tup, wp_lst, wp_call, wp_bi, wp_isi, wp_sub, wp_sli, wp_rev, wp_lc, wp_dct, wp_dc, wp_me, wp_glo, wps_nil, wps_cons, wpos_nil, wpos_cons, wpts_nil, wpts_cons, wpo_none, wpo_some, wxs_nil, wxs_cons, wx_set, wx_par, wx_tgt, wx_aug, wx_app, wx_ext, wx_sti, wx_dput, wx_exp, wx_ret, wx_ife, wx_for, wx_brk, wx_cnt, wx_pas, wx_fz, mkW_v, mkW_o, mkW_t, opt_some, asI_int, evV_0, evV_s, evL_0, evL_s, setO_f, setO_T, setO_l, frz_nil, frz_cons, List.getElem?_cons_zero, List.getElem?_cons_succ, List.set_cons_zero, List.set_cons_succ, ownL_0, ownL_s, ownD_0, ownD_s, setO_d, pairUp_nil, pairUp_cons, dPuts_nil, setOs_nil, setOs_cons, bindAll_nil, bindAll_cons, bindT_nm, bindT_tp, bindTs_nil, bindTs_cons, wipeE_nil, wipeE_cons, Option.bind_some, Option.map_some, ends, cl_args, List.map_cons, List.map_nil, List.cons_append, List.nil_append, rep_0, rep_s, truD_bl, Bool.not_not, if_true_eq, if_false_eq, isStr, if_true, if_false, Bool.false_eq_true, eq_self]
  refine c_draw (by decide) (by decide) fun d h0 h1 => ?_
  obtain ⟨j, rfl⟩ := Int.eq_ofNat_of_zero_le h0
  have hj : j < 5 := by omega
  have hN := nms_ok (j + 1)
  have hn0 := len5 j hj
  simp only [wp_con, wp_loc, wp_bin, wp_neg, wp_not, wp_and, wp_or, wp_ite, wp_cmp, wp_chain, wp_tup, wp_lst, wp_call, wp_bi, wp_isi, wp_sub, wp_sli, wp_rev, wp_lc, wp_dct, wp_dc, wp_me, wp_glo, wps_nil, wps_cons, wpos_nil, wpos_cons, wpts_nil, wpts_cons, wpo_none, wpo_some, wxs_nil, wxs_cons, wx_set, wx_par, wx_tgt, wx_aug, wx_app, wx_ext, wx_sti, wx_dput, wx_exp, wx_ret, wx_ife, wx_for, wx_brk, wx_cnt, wx_pas, wx_fz, mkW_v, mkW_o, mkW_t, opt_some, asI_int, evV_0, evV_s, evL_0, evL_s, setO_f, setO_T, setO_l, frz_nil, frz_cons, List.getElem?_cons_zero, List.getElem?_cons_succ, List.set_cons_zero, List.set_cons_succ, ownL_0, ownL_s, ownD_0, ownD_s, setO_d, pairUp_nil, pairUp_cons, dPuts_nil, setOs_nil, setOs_cons, bindAll_nil, bindAll_cons, bindT_nm, bindT_tp, bindTs_nil, bindTs_cons, wipeE_nil, wipeE_cons, Option.bind_some, Option.map_some, ends, cl_args, List.map_cons, List.map_nil, List.cons_append, List.nil_append, rep_0, rep_s, truD_bl, Bool.not_not, if_true_eq, if_false_eq, isStr, if_true, if_false, Bool.false_eq_true, eq_self, add_int, cut5 j hj, b6t1_law]
  generalize nms.take (j + 1) = N at hN hn0 ⊢
  have n5 := hN.l5
  refine c_law_rules hN hn0 fun R hR r5 => ?_
  simp only [wp_con, wp_loc, wp_bin, wp_neg, wp_not, wp_and, wp_or, wp_ite, wp_cmp, wp_chain, wp_tup, wp_lst, wp_call, wp_bi, wp_isi, wp_sub, wp_sli, wp_rev, wp_lc, wp_dct, wp_dc, wp_me, wp_glo, wps_nil, wps_cons, wpos_nil, wpos_cons, wpts_nil, wpts_cons, wpo_none, wpo_some, wxs_nil, wxs_cons, wx_set, wx_par, wx_tgt, wx_aug, wx_app, wx_ext, wx_sti, wx_dput, wx_exp, wx_ret, wx_ife, wx_for, wx_brk, wx_cnt, wx_pas, wx_fz, mkW_v, mkW_o, mkW_t, opt_some, asI_int, evV_0, evV_s, evL_0, evL_s, setO_f, setO_T, setO_l, frz_nil, frz_cons, List.getElem?_cons_zero, List.getElem?_cons_succ, List.set_cons_zero, List.set_cons_succ, ownL_0, ownL_s, ownD_0, ownD_s, setO_d, pairUp_nil, pairUp_cons, dPuts_nil, setOs_nil, setOs_cons, bindAll_nil, bindAll_cons, bindT_nm, bindT_tp, bindTs_nil, bindTs_cons, wipeE_nil, wipeE_cons, Option.bind_some, Option.map_some, ends, cl_args, List.map_cons, List.map_nil, List.cons_append, List.nil_append, rep_0, rep_s, truD_bl, Bool.not_not, if_true_eq, if_false_eq, isStr, if_true, if_false, Bool.false_eq_true, eq_self, b6t2_law, b6t3_law]
  refine c_draw (by decide) (by decide) fun m m0 m1 => ?_
  simp only [wp_con, wp_loc, wp_bin, wp_neg, wp_not, wp_and, wp_or, wp_ite, wp_cmp, wp_chain, wp_tup, wp_lst, wp_call, wp_bi, wp_isi, wp_sub, wp_sli, wp_rev, wp_lc, wp_dct, wp_dc, wp_me, wp_glo, wps_nil, wps_cons, wpos_nil, wpos_cons, wpts_nil, wpts_cons, wpo_none, wpo_some, wxs_nil, wxs_cons, wx_set, wx_par, wx_tgt, wx_aug, wx_app, wx_ext, wx_sti, wx_dput, wx_exp, wx_ret, wx_ife, wx_for, wx_brk, wx_cnt, wx_pas, wx_fz, mkW_v, mkW_o, mkW_t, opt_some, asI_int, evV_0, evV_s, evL_0, evL_s, setO_f, setO_T, setO_l, frz_nil, frz_cons, List.getElem?_cons_zero, List.getElem?_cons_succ, List.set_cons_zero, List.set_cons_succ, ownL_0, ownL_s, ownD_0, ownD_s, setO_d, pairUp_nil, pairUp_cons, dPuts_nil, setOs_nil, setOs_cons, bindAll_nil, bindAll_cons, bindT_nm, bindT_tp, bindTs_nil, bindTs_cons, wipeE_nil, wipeE_cons, Option.bind_some, Option.map_some, ends, cl_args, List.map_cons, List.map_nil, List.cons_append, List.nil_append, rep_0, rep_s, truD_bl, Bool.not_not, if_true_eq, if_false_eq, isStr, if_true, if_false, Bool.false_eq_true, eq_self, add_int, rng1_map (show 1 + m ≤ 1000000 by omega) (show -1000000 ≤ 1 + m by omega)]
  refine for_inv (fun (rest : List Nat) r => ∃ L : List (List Nm), r = Rv (some (false, enP N)) (some (false, enR R)) (some (true, .dic (kvE enP (.bl true) L))) none none none none ∧ (∀ P ∈ L, P.Sublist N) ∧ L.length + rest.length ≤ 3) ?_ ?_ ?_
  · exact ⟨[], rfl, fun _ h => (List.not_mem_nil h).elim, by simp; omega⟩
  · rintro z rest r ⟨L, rfl, h2, h3⟩
    rw [List.length_cons] at h3
    simp only [wfT, b1_law, Rv, wp_con, wp_loc, wp_bin, wp_neg, wp_not, wp_and, wp_or, wp_ite, wp_cmp, wp_chain, wp_tup, wp_lst, wp_call, wp_bi, wp_isi, wp_sub, wp_sli, wp_rev, wp_lc, wp_dct, wp_dc, wp_me, wp_glo, wps_nil, wps_cons, wpos_nil, wpos_cons, wpts_nil, wpts_cons, wpo_none, wpo_some, wxs_nil, wxs_cons, wx_set, wx_par, wx_tgt, wx_aug, wx_app, wx_ext, wx_sti, wx_dput, wx_exp, wx_ret, wx_ife, wx_for, wx_brk, wx_cnt, wx_pas, wx_fz, mkW_v, mkW_o, mkW_t, opt_some, asI_int, evV_0, evV_s, evL_0, evL_s, setO_f, setO_T, setO_l, frz_nil, frz_cons, List.getElem?_cons_zero, List.getElem?_cons_succ, List.set_cons_zero, List.set_cons_succ, ownL_0, ownL_s, ownD_0, ownD_s, setO_d, pairUp_nil, pairUp_cons, dPuts_nil, setOs_nil, setOs_cons, bindAll_nil, bindAll_cons, bindT_nm, bindT_tp, bindTs_nil, bindTs_cons, wipeE_nil, wipeE_cons, Option.bind_some, Option.map_some, ends, cl_args, List.map_cons, List.map_nil, List.cons_append, List.nil_append, rep_0, rep_s, truD_bl, Bool.not_not, if_true_eq, if_false_eq, isStr, if_true, if_false, Bool.false_eq_true, eq_self, it_P]
    refine wlc_pick (fun x hx K' hK' => ?_) fun ys hs => ?_
    · simp only [wlT, q1_law, wp_con, wp_loc, wp_bin, wp_neg, wp_not, wp_and, wp_or, wp_ite, wp_cmp, wp_chain, wp_tup, wp_lst, wp_call, wp_bi, wp_isi, wp_sub, wp_sli, wp_rev, wp_lc, wp_dct, wp_dc, wp_me, wp_glo, wps_nil, wps_cons, wpos_nil, wpos_cons, wpts_nil, wpts_cons, wpo_none, wpo_some, wxs_nil, wxs_cons, wx_set, wx_par, wx_tgt, wx_aug, wx_app, wx_ext, wx_sti, wx_dput, wx_exp, wx_ret, wx_ife, wx_for, wx_brk, wx_cnt, wx_pas, wx_fz, mkW_v, mkW_o, mkW_t, opt_some, asI_int, evV_0, evV_s, evL_0, evL_s, setO_f, setO_T, setO_l, frz_nil, frz_cons, List.getElem?_cons_zero, List.getElem?_cons_succ, List.set_cons_zero, List.set_cons_succ, ownL_0, ownL_s, ownD_0, ownD_s, setO_d, pairUp_nil, pairUp_cons, dPuts_nil, setOs_nil, setOs_cons, bindAll_nil, bindAll_cons, bindT_nm, bindT_tp, bindTs_nil, bindTs_cons, wipeE_nil, wipeE_cons, Option.bind_some, Option.map_some, ends, cl_args, List.map_cons, List.map_nil, List.cons_append, List.nil_append, rep_0, rep_s, truD_bl, Bool.not_not, if_true_eq, if_false_eq, isStr, if_true, if_false, Bool.false_eq_true, eq_self]
      refine c_draw (by decide) (by decide) fun e e0 e1 => ?_
      simp only [wp_con, wp_loc, wp_bin, wp_neg, wp_not, wp_and, wp_or, wp_ite, wp_cmp, wp_chain, wp_tup, wp_lst, wp_call, wp_bi, wp_isi, wp_sub, wp_sli, wp_rev, wp_lc, wp_dct, wp_dc, wp_me, wp_glo, wps_nil, wps_cons, wpos_nil, wpos_cons, wpts_nil, wpts_cons, wpo_none, wpo_some, wxs_nil, wxs_cons, wx_set, wx_par, wx_tgt, wx_aug, wx_app, wx_ext, wx_sti, wx_dput, wx_exp, wx_ret, wx_ife, wx_for, wx_brk, wx_cnt, wx_pas, wx_fz, mkW_v, mkW_o, mkW_t, opt_some, asI_int, evV_0, evV_s, evL_0, evL_s, setO_f, setO_T, setO_l, frz_nil, frz_cons, List.getElem?_cons_zero, List.getElem?_cons_succ, List.set_cons_zero, List.set_cons_succ, ownL_0, ownL_s, ownD_0, ownD_s, setO_d, pairUp_nil, pairUp_cons, dPuts_nil, setOs_nil, setOs_cons, bindAll_nil, bindAll_cons, bindT_nm, bindT_tp, bindTs_nil, bindTs_cons, wipeE_nil, wipeE_cons, Option.bind_some, Option.map_some, ends, cl_args, List.map_cons, List.map_nil, List.cons_append, List.nil_append, rep_0, rep_s, truD_bl, Bool.not_not, if_true_eq, if_false_eq, isStr, if_true, if_false, Bool.false_eq_true, eq_self, cmp_eq_int]
      cases hb2 : (e == 0) with
      | true =>
        simp only [wp_con, wp_loc, wp_bin, wp_neg, wp_not, wp_and, wp_or, wp_ite, wp_cmp, wp_chain, wp_tup, wp_lst, wp_call, wp_bi, wp_isi, wp_sub, wp_sli, wp_rev, wp_lc, wp_dct, wp_dc, wp_me, wp_glo, wps_nil, wps_cons, wpos_nil, wpos_cons, wpts_nil, wpts_cons, wpo_none, wpo_some, wxs_nil, wxs_cons, wx_set, wx_par, wx_tgt, wx_aug, wx_app, wx_ext, wx_sti, wx_dput, wx_exp, wx_ret, wx_ife, wx_for, wx_brk, wx_cnt, wx_pas, wx_fz, mkW_v, mkW_o, mkW_t, opt_some, asI_int, evV_0, evV_s, evL_0, evL_s, setO_f, setO_T, setO_l, frz_nil, frz_cons, List.getElem?_cons_zero, List.getElem?_cons_succ, List.set_cons_zero, List.set_cons_succ, ownL_0, ownL_s, ownD_0, ownD_s, setO_d, pairUp_nil, pairUp_cons, dPuts_nil, setOs_nil, setOs_cons, bindAll_nil, bindAll_cons, bindT_nm, bindT_tp, bindTs_nil, bindTs_cons, wipeE_nil, wipeE_cons, Option.bind_some, Option.map_some, ends, cl_args, List.map_cons, List.map_nil, List.cons_append, List.nil_append, rep_0, rep_s, truD_bl, Bool.not_not, if_true_eq, if_false_eq, isStr, if_true, if_false, Bool.false_eq_true, eq_self, e1_law]
        exact hK' true
      | false =>
        try simp only [wp_con, wp_loc, wp_bin, wp_neg, wp_not, wp_and, wp_or, wp_ite, wp_cmp, wp_chain, wp_tup, wp_lst, wp_call, wp_bi, wp_isi, wp_sub, wp_sli, wp_rev, wp_lc, wp_dct, wp_dc, wp_me, wp_glo, wps_nil, wps_cons, wpos_nil, wpos_cons, wpts_nil, wpts_cons, wpo_none, wpo_some, wxs_nil, wxs_cons, wx_set, wx_par, wx_tgt, wx_aug, wx_app, wx_ext, wx_sti, wx_dput, wx_exp, wx_ret, wx_ife, wx_for, wx_brk, wx_cnt, wx_pas, wx_fz, mkW_v, mkW_o, mkW_t, opt_some, asI_int, evV_0, evV_s, evL_0, evL_s, setO_f, setO_T, setO_l, frz_nil, frz_cons, List.getElem?_cons_zero, List.getElem?_cons_succ, List.set_cons_zero, List.set_cons_succ, ownL_0, ownL_s, ownD_0, ownD_s, setO_d, pairUp_nil, pairUp_cons, dPuts_nil, setOs_nil, setOs_cons, bindAll_nil, bindAll_cons, bindT_nm, bindT_tp, bindTs_nil, bindTs_cons, wipeE_nil, wipeE_cons, Option.bind_some, Option.map_some, ends, cl_args, List.map_cons, List.map_nil, List.cons_append, List.nil_append, rep_0, rep_s, truD_bl, Bool.not_not, if_true_eq, if_false_eq, isStr, if_true, if_false, Bool.false_eq_true, eq_self]
        exact hK' false
    · simp only [wp_con, wp_loc, wp_bin, wp_neg, wp_not, wp_and, wp_or, wp_ite, wp_cmp, wp_chain, wp_tup, wp_lst, wp_call, wp_bi, wp_isi, wp_sub, wp_sli, wp_rev, wp_lc, wp_dct, wp_dc, wp_me, wp_glo, wps_nil, wps_cons, wpos_nil, wpos_cons, wpts_nil, wpts_cons, wpo_none, wpo_some, wxs_nil, wxs_cons, wx_set, wx_par, wx_tgt, wx_aug, wx_app, wx_ext, wx_sti, wx_dput, wx_exp, wx_ret, wx_ife, wx_for, wx_brk, wx_cnt, wx_pas, wx_fz, mkW_v, mkW_o, mkW_t, opt_some, asI_int, evV_0, evV_s, evL_0, evL_s, setO_f, setO_T, setO_l, frz_nil, frz_cons, List.getElem?_cons_zero, List.getElem?_cons_succ, List.set_cons_zero, List.set_cons_succ, ownL_0, ownL_s, ownD_0, ownD_s, setO_d, pairUp_nil, pairUp_cons, dPuts_nil, setOs_nil, setOs_cons, bindAll_nil, bindAll_cons, bindT_nm, bindT_tp, bindTs_nil, bindTs_cons, wipeE_nil, wipeE_cons, Option.bind_some, Option.map_some, ends, cl_args, List.map_cons, List.map_nil, List.cons_append, List.nil_append, rep_0, rep_s, truD_bl, Bool.not_not, if_true_eq, if_false_eq, isStr, if_true, if_false, Bool.false_eq_true, eq_self, tuple_P, kvE_put En_P]
      refine ⟨⟨kvE_ok En_P, by rw [kvE_len]; omega⟩, _, ?_, addE L ys, rfl, fun P hP => ?_, ?_⟩
      · try simp only [Rv]
        (apply LeI.le; repeat (first | exact LeI.nil | apply LeI.s | apply LeI.n | apply LeI.r))
      · rcases addE_mem.mp hP with q | rfl
        · exact h2 P q
        · exact hs
      · have := addE_len (l := L) (s := ys)
        omega
  · rintro r ⟨L, rfl, h2, h3⟩
    simp only [List.length_nil, Nat.add_zero] at h3
    simp only [b6t4_law, Rv, wp_con, wp_loc, wp_bin, wp_neg, wp_not, wp_and, wp_or, wp_ite, wp_cmp, wp_chain, wp_tup, wp_lst, wp_call, wp_bi, wp_isi, wp_sub, wp_sli, wp_rev, wp_lc, wp_dct, wp_dc, wp_me, wp_glo, wps_nil, wps_cons, wpos_nil, wpos_cons, wpts_nil, wpts_cons, wpo_none, wpo_some, wxs_nil, wxs_cons, wx_set, wx_par, wx_tgt, wx_aug, wx_app, wx_ext, wx_sti, wx_dput, wx_exp, wx_ret, wx_ife, wx_for, wx_brk, wx_cnt, wx_pas, wx_fz, mkW_v, mkW_o, mkW_t, opt_some, asI_int, evV_0, evV_s, evL_0, evL_s, setO_f, setO_T, setO_l, frz_nil, frz_cons, List.getElem?_cons_zero, List.getElem?_cons_succ, List.set_cons_zero, List.set_cons_succ, ownL_0, ownL_s, ownD_0, ownD_s, setO_d, pairUp_nil, pairUp_cons, dPuts_nil, setOs_nil, setOs_cons, bindAll_nil, bindAll_cons, bindT_nm, bindT_tp, bindTs_nil, bindTs_cons, wipeE_nil, wipeE_cons, Option.bind_some, Option.map_some, ends, cl_args, List.map_cons, List.map_nil, List.cons_append, List.nil_append, rep_0, rep_s, truD_bl, Bool.not_not, if_true_eq, if_false_eq, isStr, if_true, if_false, Bool.false_eq_true, eq_self, it_P]
    refine wlc_filter (fun c => !L.any fun P => decide (c ∈ P)) D.str (fun c hc K' hK' => ?_) ?_
    · have ik : itD .seq [.dic (kvE enP (.bl true) L)] = some (L.map enP) := by
        show some (dKeys (kvE enP (.bl true) L)) = _
        rw [kvE_keys]
      simp only [wlT, q2_law, wp_con, wp_loc, wp_bin, wp_neg, wp_not, wp_and, wp_or, wp_ite, wp_cmp, wp_chain, wp_tup, wp_lst, wp_call, wp_bi, wp_isi, wp_sub, wp_sli, wp_rev, wp_lc, wp_dct, wp_dc, wp_me, wp_glo, wps_nil, wps_cons, wpos_nil, wpos_cons, wpts_nil, wpts_cons, wpo_none, wpo_some, wxs_nil, wxs_cons, wx_set, wx_par, wx_tgt, wx_aug, wx_app, wx_ext, wx_sti, wx_dput, wx_exp, wx_ret, wx_ife, wx_for, wx_brk, wx_cnt, wx_pas, wx_fz, mkW_v, mkW_o, mkW_t, opt_some, asI_int, evV_0, evV_s, evL_0, evL_s, setO_f, setO_T, setO_l, frz_nil, frz_cons, List.getElem?_cons_zero, List.getElem?_cons_succ, List.set_cons_zero, List.set_cons_succ, ownL_0, ownL_s, ownD_0, ownD_s, setO_d, pairUp_nil, pairUp_cons, dPuts_nil, setOs_nil, setOs_cons, bindAll_nil, bindAll_cons, bindT_nm, bindT_tp, bindTs_nil, bindTs_cons, wipeE_nil, wipeE_cons, Option.bind_some, Option.map_some, ends, cl_args, List.map_cons, List.map_nil, List.cons_append, List.nil_append, rep_0, rep_s, truD_bl, Bool.not_not, if_true_eq, if_false_eq, isStr, if_true, if_false, Bool.false_eq_true, eq_self, ik]
      refine wlc_any (fun P => decide (c ∈ P)) (fun P hP K' hK' => ?_) ?_
      · simp only [wlT, e2_law, wp_con, wp_loc, wp_bin, wp_neg, wp_not, wp_and, wp_or, wp_ite, wp_cmp, wp_chain, wp_tup, wp_lst, wp_call, wp_bi, wp_isi, wp_sub, wp_sli, wp_rev, wp_lc, wp_dct, wp_dc, wp_me, wp_glo, wps_nil, wps_cons, wpos_nil, wpos_cons, wpts_nil, wpts_cons, wpo_none, wpo_some, wxs_nil, wxs_cons, wx_set, wx_par, wx_tgt, wx_aug, wx_app, wx_ext, wx_sti, wx_dput, wx_exp, wx_ret, wx_ife, wx_for, wx_brk, wx_cnt, wx_pas, wx_fz, mkW_v, mkW_o, mkW_t, opt_some, asI_int, evV_0, evV_s, evL_0, evL_s, setO_f, setO_T, setO_l, frz_nil, frz_cons, List.getElem?_cons_zero, List.getElem?_cons_succ, List.set_cons_zero, List.set_cons_succ, ownL_0, ownL_s, ownD_0, ownD_s, setO_d, pairUp_nil, pairUp_cons, dPuts_nil, setOs_nil, setOs_cons, bindAll_nil, bindAll_cons, bindT_nm, bindT_tp, bindTs_nil, bindTs_cons, wipeE_nil, wipeE_cons, Option.bind_some, Option.map_some, ends, cl_args, List.map_cons, List.map_nil, List.cons_append, List.nil_append, rep_0, rep_s, truD_bl, Bool.not_not, if_true_eq, if_false_eq, isStr, if_true, if_false, Bool.false_eq_true, eq_self, in_P]
        exact hK'
      · try simp only [wp_con, wp_loc, wp_bin, wp_neg, wp_not, wp_and, wp_or, wp_ite, wp_cmp, wp_chain, wp_tup, wp_lst, wp_call, wp_bi, wp_isi, wp_sub, wp_sli, wp_rev, wp_lc, wp_dct, wp_dc, wp_me, wp_glo, wps_nil, wps_cons, wpos_nil, wpos_cons, wpts_nil, wpts_cons, wpo_none, wpo_some, wxs_nil, wxs_cons, wx_set, wx_par, wx_tgt, wx_aug, wx_app, wx_ext, wx_sti, wx_dput, wx_exp, wx_ret, wx_ife, wx_for, wx_brk, wx_cnt, wx_pas, wx_fz, mkW_v, mkW_o, mkW_t, opt_some, asI_int, evV_0, evV_s, evL_0, evL_s, setO_f, setO_T, setO_l, frz_nil, frz_cons, List.getElem?_cons_zero, List.getElem?_cons_succ, List.set_cons_zero, List.set_cons_succ, ownL_0, ownL_s, ownD_0, ownD_s, setO_d, pairUp_nil, pairUp_cons, dPuts_nil, setOs_nil, setOs_cons, bindAll_nil, bindAll_cons, bindT_nm, bindT_tp, bindTs_nil, bindTs_cons, wipeE_nil, wipeE_cons, Option.bind_some, Option.map_some, ends, cl_args, List.map_cons, List.map_nil, List.cons_append, List.nil_append, rep_0, rep_s, truD_bl, Bool.not_not, if_true_eq, if_false_eq, isStr, if_true, if_false, Bool.false_eq_true, eq_self]
        cases hb : (!L.any fun P => decide (c ∈ P)) with
        | true => rw [hb] at hK'; simp only [wp_con, wp_loc, wp_bin, wp_neg, wp_not, wp_and, wp_or, wp_ite, wp_cmp, wp_chain, wp_tup, wp_lst, wp_call, wp_bi, wp_isi, wp_sub, wp_sli, wp_rev, wp_lc, wp_dct, wp_dc, wp_me, wp_glo, wps_nil, wps_cons, wpos_nil, wpos_cons, wpts_nil, wpts_cons, wpo_none, wpo_some, wxs_nil, wxs_cons, wx_set, wx_par, wx_tgt, wx_aug, wx_app, wx_ext, wx_sti, wx_dput, wx_exp, wx_ret, wx_ife, wx_for, wx_brk, wx_cnt, wx_pas, wx_fz, mkW_v, mkW_o, mkW_t, opt_some, asI_int, evV_0, evV_s, evL_0, evL_s, setO_f, setO_T, setO_l, frz_nil, frz_cons, List.getElem?_cons_zero, List.getElem?_cons_succ, List.set_cons_zero, List.set_cons_succ, ownL_0, ownL_s, ownD_0, ownD_s, setO_d, pairUp_nil, pairUp_cons, dPuts_nil, setOs_nil, setOs_cons, bindAll_nil, bindAll_cons, bindT_nm, bindT_tp, bindTs_nil, bindTs_cons, wipeE_nil, wipeE_cons, Option.bind_some, Option.map_some, ends, cl_args, List.map_cons, List.map_nil, List.cons_append, List.nil_append, rep_0, rep_s, truD_bl, Bool.not_not, if_true_eq, if_false_eq, isStr, if_true, if_false, Bool.false_eq_true, eq_self, e3_law]; exact hK'
        | false => rw [hb] at hK'; try simp only [wp_con, wp_loc, wp_bin, wp_neg, wp_not, wp_and, wp_or, wp_ite, wp_cmp, wp_chain, wp_tup, wp_lst, wp_call, wp_bi, wp_isi, wp_sub, wp_sli, wp_rev, wp_lc, wp_dct, wp_dc, wp_me, wp_glo, wps_nil, wps_cons, wpos_nil, wpos_cons, wpts_nil, wpts_cons, wpo_none, wpo_some, wxs_nil, wxs_cons, wx_set, wx_par, wx_tgt, wx_aug, wx_app, wx_ext, wx_sti, wx_dput, wx_exp, wx_ret, wx_ife, wx_for, wx_brk, wx_cnt, wx_pas, wx_fz, mkW_v, mkW_o, mkW_t, opt_some, asI_int, evV_0, evV_s, evL_0, evL_s, setO_f, setO_T, setO_l, frz_nil, frz_cons, List.getElem?_cons_zero, List.getElem?_cons_succ, List.set_cons_zero, List.set_cons_succ, ownL_0, ownL_s, ownD_0, ownD_s, setO_d, pairUp_nil, pairUp_cons, dPuts_nil, setOs_nil, setOs_cons, bindAll_nil, bindAll_cons, bindT_nm, bindT_tp, bindTs_nil, bindTs_cons, wipeE_nil, wipeE_cons, Option.bind_some, Option.map_some, ends, cl_args, List.map_cons, List.map_nil, List.cons_append, List.nil_append, rep_0, rep_s, truD_bl, Bool.not_not, if_true_eq, if_false_eq, isStr, if_true, if_false, Bool.false_eq_true, eq_self]; exact hK'
    · have hs : (N.filter fun c => !L.any fun P => decide (c ∈ P)).Sublist N := List.filter_sublist ..
      generalize (N.filter fun c => !L.any fun P => decide (c ∈ P)) = ys at hs ⊢
      simp only [wp_con, wp_loc, wp_bin, wp_neg, wp_not, wp_and, wp_or, wp_ite, wp_cmp, wp_chain, wp_tup, wp_lst, wp_call, wp_bi, wp_isi, wp_sub, wp_sli, wp_rev, wp_lc, wp_dct, wp_dc, wp_me, wp_glo, wps_nil, wps_cons, wpos_nil, wpos_cons, wpts_nil, wpts_cons, wpo_none, wpo_some, wxs_nil, wxs_cons, wx_set, wx_par, wx_tgt, wx_aug, wx_app, wx_ext, wx_sti, wx_dput, wx_exp, wx_ret, wx_ife, wx_for, wx_brk, wx_cnt, wx_pas, wx_fz, mkW_v, mkW_o, mkW_t, opt_some, asI_int, evV_0, evV_s, evL_0, evL_s, setO_f, setO_T, setO_l, frz_nil, frz_cons, List.getElem?_cons_zero, List.getElem?_cons_succ, List.set_cons_zero, List.set_cons_succ, ownL_0, ownL_s, ownD_0, ownD_s, setO_d, pairUp_nil, pairUp_cons, dPuts_nil, setOs_nil, setOs_cons, bindAll_nil, bindAll_cons, bindT_nm, bindT_tp, bindTs_nil, bindTs_cons, wipeE_nil, wipeE_cons, Option.bind_some, Option.map_some, ends, cl_args, List.map_cons, List.map_nil, List.cons_append, List.nil_append, rep_0, rep_s, truD_bl, Bool.not_not, if_true_eq, if_false_eq, isStr, if_true, if_false, Bool.false_eq_true, eq_self, tuple_P, kvE_put En_P]
      refine ⟨⟨kvE_ok En_P, by rw [kvE_len]; omega⟩, ?_⟩
      have hL : ∀ P ∈ addE L ys, P.Sublist N := fun P hP => by
        rcases addE_mem.mp hP with q | rfl
        · exact h2 P q
        · exact hs
      have l4 := addE_len (l := L) (s := ys)
      generalize addE L ys = L' at hL l4 ⊢
      have ik : itD .seq [.dic (kvE enP (.bl true) L')] = some (L'.map enP) := by
        show some (dKeys (kvE enP (.bl true) L')) = _
        rw [kvE_keys]
      simp only [b6t5_law, wp_con, wp_loc, wp_bin, wp_neg, wp_not, wp_and, wp_or, wp_ite, wp_cmp, wp_chain, wp_tup, wp_lst, wp_call, wp_bi, wp_isi, wp_sub, wp_sli, wp_rev, wp_lc, wp_dct, wp_dc, wp_me, wp_glo, wps_nil, wps_cons, wpos_nil, wpos_cons, wpts_nil, wpts_cons, wpo_none, wpo_some, wxs_nil, wxs_cons, wx_set, wx_par, wx_tgt, wx_aug, wx_app, wx_ext, wx_sti, wx_dput, wx_exp, wx_ret, wx_ife, wx_for, wx_brk, wx_cnt, wx_pas, wx_fz, mkW_v, mkW_o, mkW_t, opt_some, asI_int, evV_0, evV_s, evL_0, evL_s, setO_f, setO_T, setO_l, frz_nil, frz_cons, List.getElem?_cons_zero, List.getElem?_cons_succ, List.set_cons_zero, List.set_cons_succ, ownL_0, ownL_s, ownD_0, ownD_s, setO_d, pairUp_nil, pairUp_cons, dPuts_nil, setOs_nil, setOs_cons, bindAll_nil, bindAll_cons, bindT_nm, bindT_tp, bindTs_nil, bindTs_cons, wipeE_nil, wipeE_cons, Option.bind_some, Option.map_some, ends, cl_args, List.map_cons, List.map_nil, List.cons_append, List.nil_append, rep_0, rep_s, truD_bl, Bool.not_not, if_true_eq, if_false_eq, isStr, if_true, if_false, Bool.false_eq_true, eq_self, ik]
      refine wlc_filter (fun P => !decide (P = [])) enP (fun P hP K' hK' => ?_) ?_
      · have ce : cmpD .ne (enP P) (.tup []) = some (!decide (P = [])) := En_P.cne P []
        simp only [wlT, q3_law, wp_con, wp_loc, wp_bin, wp_neg, wp_not, wp_and, wp_or, wp_ite, wp_cmp, wp_chain, wp_tup, wp_lst, wp_call, wp_bi, wp_isi, wp_sub, wp_sli, wp_rev, wp_lc, wp_dct, wp_dc, wp_me, wp_glo, wps_nil, wps_cons, wpos_nil, wpos_cons, wpts_nil, wpts_cons, wpo_none, wpo_some, wxs_nil, wxs_cons, wx_set, wx_par, wx_tgt, wx_aug, wx_app, wx_ext, wx_sti, wx_dput, wx_exp, wx_ret, wx_ife, wx_for, wx_brk, wx_cnt, wx_pas, wx_fz, mkW_v, mkW_o, mkW_t, opt_some, asI_int, evV_0, evV_s, evL_0, evL_s, setO_f, setO_T, setO_l, frz_nil, frz_cons, List.getElem?_cons_zero, List.getElem?_cons_succ, List.set_cons_zero, List.set_cons_succ, ownL_0, ownL_s, ownD_0, ownD_s, setO_d, pairUp_nil, pairUp_cons, dPuts_nil, setOs_nil, setOs_cons, bindAll_nil, bindAll_cons, bindT_nm, bindT_tp, bindTs_nil, bindTs_cons, wipeE_nil, wipeE_cons, Option.bind_some, Option.map_some, ends, cl_args, List.map_cons, List.map_nil, List.cons_append, List.nil_append, rep_0, rep_s, truD_bl, Bool.not_not, if_true_eq, if_false_eq, isStr, if_true, if_false, Bool.false_eq_true, eq_self, ce]
        cases hb : (!decide (P = [])) with
        | true => rw [hb] at hK'; simp only [wp_con, wp_loc, wp_bin, wp_neg, wp_not, wp_and, wp_or, wp_ite, wp_cmp, wp_chain, wp_tup, wp_lst, wp_call, wp_bi, wp_isi, wp_sub, wp_sli, wp_rev, wp_lc, wp_dct, wp_dc, wp_me, wp_glo, wps_nil, wps_cons, wpos_nil, wpos_cons, wpts_nil, wpts_cons, wpo_none, wpo_some, wxs_nil, wxs_cons, wx_set, wx_par, wx_tgt, wx_aug, wx_app, wx_ext, wx_sti, wx_dput, wx_exp, wx_ret, wx_ife, wx_for, wx_brk, wx_cnt, wx_pas, wx_fz, mkW_v, mkW_o, mkW_t, opt_some, asI_int, evV_0, evV_s, evL_0, evL_s, setO_f, setO_T, setO_l, frz_nil, frz_cons, List.getElem?_cons_zero, List.getElem?_cons_succ, List.set_cons_zero, List.set_cons_succ, ownL_0, ownL_s, ownD_0, ownD_s, setO_d, pairUp_nil, pairUp_cons, dPuts_nil, setOs_nil, setOs_cons, bindAll_nil, bindAll_cons, bindT_nm, bindT_tp, bindTs_nil, bindTs_cons, wipeE_nil, wipeE_cons, Option.bind_some, Option.map_some, ends, cl_args, List.map_cons, List.map_nil, List.cons_append, List.nil_append, rep_0, rep_s, truD_bl, Bool.not_not, if_true_eq, if_false_eq, isStr, if_true, if_false, Bool.false_eq_true, eq_self, e4_law]; exact hK'
        | false => rw [hb] at hK'; try simp only [wp_con, wp_loc, wp_bin, wp_neg, wp_not, wp_and, wp_or, wp_ite, wp_cmp, wp_chain, wp_tup, wp_lst, wp_call, wp_bi, wp_isi, wp_sub, wp_sli, wp_rev, wp_lc, wp_dct, wp_dc, wp_me, wp_glo, wps_nil, wps_cons, wpos_nil, wpos_cons, wpts_nil, wpts_cons, wpo_none, wpo_some, wxs_nil, wxs_cons, wx_set, wx_par, wx_tgt, wx_aug, wx_app, wx_ext, wx_sti, wx_dput, wx_exp, wx_ret, wx_ife, wx_for, wx_brk, wx_cnt, wx_pas, wx_fz, mkW_v, mkW_o, mkW_t, opt_some, asI_int, evV_0, evV_s, evL_0, evL_s, setO_f, setO_T, setO_l, frz_nil, frz_cons, List.getElem?_cons_zero, List.getElem?_cons_succ, List.set_cons_zero, List.set_cons_succ, ownL_0, ownL_s, ownD_0, ownD_s, setO_d, pairUp_nil, pairUp_cons, dPuts_nil, setOs_nil, setOs_cons, bindAll_nil, bindAll_cons, bindT_nm, bindT_tp, bindTs_nil, bindTs_cons, wipeE_nil, wipeE_cons, Option.bind_some, Option.map_some, ends, cl_args, List.map_cons, List.map_nil, List.cons_append, List.nil_append, rep_0, rep_s, truD_bl, Bool.not_not, if_true_eq, if_false_eq, isStr, if_true, if_false, Bool.false_eq_true, eq_self]; exact hK'
      · have so : sortable ((L'.filter fun P => !decide (P = [])).map enP) = true := sortable_tc En_P _ fun P hP => by
          have := (List.mem_filter.mp hP).2
          cases P with
          | nil => simp at this
          | cons a P => rfl
        have et : ∀ l : List (List Nm), biD .tuple [.lst (l.map enP)] = some (.tup (l.map enP)) := fun _ => rfl
        simp only [wp_con, wp_loc, wp_bin, wp_neg, wp_not, wp_and, wp_or, wp_ite, wp_cmp, wp_chain, wp_tup, wp_lst, wp_call, wp_bi, wp_isi, wp_sub, wp_sli, wp_rev, wp_lc, wp_dct, wp_dc, wp_me, wp_glo, wps_nil, wps_cons, wpos_nil, wpos_cons, wpts_nil, wpts_cons, wpo_none, wpo_some, wxs_nil, wxs_cons, wx_set, wx_par, wx_tgt, wx_aug, wx_app, wx_ext, wx_sti, wx_dput, wx_exp, wx_ret, wx_ife, wx_for, wx_brk, wx_cnt, wx_pas, wx_fz, mkW_v, mkW_o, mkW_t, opt_some, asI_int, evV_0, evV_s, evL_0, evL_s, setO_f, setO_T, setO_l, frz_nil, frz_cons, List.getElem?_cons_zero, List.getElem?_cons_succ, List.set_cons_zero, List.set_cons_succ, ownL_0, ownL_s, ownD_0, ownD_s, setO_d, pairUp_nil, pairUp_cons, dPuts_nil, setOs_nil, setOs_cons, bindAll_nil, bindAll_cons, bindT_nm, bindT_tp, bindTs_nil, bindTs_cons, wipeE_nil, wipeE_cons, Option.bind_some, Option.map_some, ends, cl_args, List.map_cons, List.map_nil, List.cons_append, List.nil_append, rep_0, rep_s, truD_bl, Bool.not_not, if_true_eq, if_false_eq, isStr, if_true, if_false, Bool.false_eq_true, eq_self, sorted_lst so, et]
        refine t7 hw hN hR r5 (fun P hP => hL P (List.mem_filter.mp (mem_srt.mp hP)).1) ?_ uq hn
        rw [srt_len]
        exact Nat.le_trans (List.length_filter_le ..) (by omega)
end
def LV : Nat := 10
def WN : Nat := 20
theorem law_true (cells : List Int) (b : Int) (h : cells.length ≤ 63) : ∃ s', out (exs ((tb WN).at LV) WN u_law e_law (cells, [0, b])) = some (.bl true, s') := by
  have key : wxs (G WN (0 + 10)) WN u_law (Rv none none none none none none none) (ends fun d => d = .bl true) := by
    simp only [u_law, Rv, wp_con, wp_loc, wp_bin, wp_neg, wp_not, wp_and, wp_or, wp_ite, wp_cmp, wp_chain, wp_tup, wp_lst, wp_call, wp_bi, wp_isi, wp_sub, wp_sli, wp_rev, wp_lc, wp_dct, wp_dc, wp_me, wp_glo, wps_nil, wps_cons, wpos_nil, wpos_cons, wpts_nil, wpts_cons, wpo_none, wpo_some, wxs_nil, wxs_cons, wx_set, wx_par, wx_tgt, wx_aug, wx_app, wx_ext, wx_sti, wx_dput, wx_exp, wx_ret, wx_ife, wx_for, wx_brk, wx_cnt, wx_pas, wx_fz, mkW_v, mkW_o, mkW_t, opt_some, asI_int, evV_0, evV_s, evL_0, evL_s, setO_f, setO_T, setO_l, frz_nil, frz_cons, List.getElem?_cons_zero, List.getElem?_cons_succ, List.set_cons_zero, List.set_cons_succ, ownL_0, ownL_s, ownD_0, ownD_s, setO_d, pairUp_nil, pairUp_cons, dPuts_nil, setOs_nil, setOs_cons, bindAll_nil, bindAll_cons, bindT_nm, bindT_tp, bindTs_nil, bindTs_cons, wipeE_nil, wipeE_cons, Option.bind_some, Option.map_some, ends, cl_args, List.map_cons, List.map_nil, List.cons_append, List.nil_append, rep_0, rep_s, truD_bl, Bool.not_not, if_true_eq, if_false_eq, isStr, if_true, if_false, Bool.false_eq_true, eq_self, rng1_map (show (5 : Int) ≤ 1000000 by omega) (show -1000000 ≤ (5 : Int) by omega)]
    refine for_pass (R := Rv none none none none none none none) (upc_seq (Q := ends fun d => d = .bl true) upc_ends) (fun z hz Q' uq q1 => ?_) ?_
    · exact turn_law (by decide) uq q1
    · simp only [ut1_law, wp_con, wp_loc, wp_bin, wp_neg, wp_not, wp_and, wp_or, wp_ite, wp_cmp, wp_chain, wp_tup, wp_lst, wp_call, wp_bi, wp_isi, wp_sub, wp_sli, wp_rev, wp_lc, wp_dct, wp_dc, wp_me, wp_glo, wps_nil, wps_cons, wpos_nil, wpos_cons, wpts_nil, wpts_cons, wpo_none, wpo_some, wxs_nil, wxs_cons, wx_set, wx_par, wx_tgt, wx_aug, wx_app, wx_ext, wx_sti, wx_dput, wx_exp, wx_ret, wx_ife, wx_for, wx_brk, wx_cnt, wx_pas, wx_fz, mkW_v, mkW_o, mkW_t, opt_some, asI_int, evV_0, evV_s, evL_0, evL_s, setO_f, setO_T, setO_l, frz_nil, frz_cons, List.getElem?_cons_zero, List.getElem?_cons_succ, List.set_cons_zero, List.set_cons_succ, ownL_0, ownL_s, ownD_0, ownD_s, setO_d, pairUp_nil, pairUp_cons, dPuts_nil, setOs_nil, setOs_cons, bindAll_nil, bindAll_cons, bindT_nm, bindT_tp, bindTs_nil, bindTs_cons, wipeE_nil, wipeE_cons, Option.bind_some, Option.map_some, ends, cl_args, List.map_cons, List.map_nil, List.cons_append, List.nil_append, rep_0, rep_s, truD_bl, Bool.not_not, if_true_eq, if_false_eq, isStr, if_true, if_false, Bool.false_eq_true, eq_self]
  obtain ⟨d, s', e, _, rfl⟩ := out_ok (s := (cells, [0, b])) ⟨0, b, rfl⟩ key
  exact ⟨s', e⟩
end Law

namespace Law
open PySem PySem.Spec PyProof.Rows L2 Ip
theorem walk {l : PySem.W.OpenLaw} {q : Program} {loose : List Str} {XP : (Str → Option Value) → Heap → Prop} {YP : World → Heap → Prop} {d : DefRec} {K : Params → PySem.W.Frag} {k : Nat} (hn : l.most = some 63) (hdf : d.params.defaults = []) (hr : L2.Room k callerA)
    (hY : ∀ (w : World) (h : Heap), YP w h → (K w.params).In h)
    (F : ∀ (w : World) (mg : Str → Option Value) (fa : Addr) (h : Heap), (K w.params).In h → h.Ns mainGlobals mg → mg d.name = some (.ref fa) →
      ∃ fd : FuncData, (∀ (s : Shared) (u : Value), BindsTo s fd ⟨[u], []⟩ [("script", u)]) ∧ ∀ base : Heap, (K w.params).In base → base.Ns mainGlobals mg → L2.FnOk l.prog w (K w.params) mg base L2.CX0 k fa fd ["script"] (Ip.spLaw (K w.params))) :
    PySem.W.WalkO q loose XP YP l.row.toRowW d [] (fun f vs => PySem.call f vs) :=
  L2.walk_of (n := 63) (k := k) (x := "script") (CX := fun _ => L2.CX0) (sp := fun w => Ip.spLaw (K w.params)) hn (by decide) hdf hr hY F (fun _ _ a ns hl _ hS => ⟨a, ns, rfl, hS, hl, fun _ => rfl⟩) fun _ _ _ _ _ z => z
end Law
open PySem PySem.W PyProof.Rows
set_option maxRecDepth 100000 in
set_option maxHeartbeats 0 in
theorem PySem.Challenge.cw_schemasmoved_k56_whole_rules_kept_holds : PySem.Challenge.rw_schemasmoved_k56_whole_rules_kept.Holds := by
  w_on; o_law; k_head; (case hw => w_witness2)
  k_fill
  refine Law.walk (l := PySem.Challenge.rw_schemasmoved_k56_whole_rules_kept) (k := Law.LV + 3) rfl rfl ⟨rfl, by decide, by decide⟩ (fun w h Y => PySem.W.kIn_of Y) ?F
  case F =>
    intro w mg fa h KX G hmg
    refine' Law.law_fn KX G hmg (Law.hbt_of KX G ?z_len ?z_int ?z_str ?z_all ?z_any ?z_list ?z_tuple ?z_sorted ?z_sum ?z_max ?z_min ?z_isinstance ?z_bool ?z_range ?z_zip ?z_enumerate ?z_dict ?z_set) ?d_told_names ?d_does_tell ?d_all_parts_of ?d_least_tellers ?d_kept_rules ?d_same_rules ?d_told_by_parts ?d_lost_rules ?d__law_box ?d__law_load ?d__law_draw ?d__law_same ?d__law_rules ?d__law_parts ?d__law_whole ?d__law_tells ?d_law Law.LV Law.WN Law.law_true
    (case z_len => k_is)
    (case z_int => k_is)
    (case z_str => k_is)
    (case z_all => k_is)
    (case z_any => k_is)
    (case z_list => k_is)
    (case z_tuple => k_is)
    (case z_sorted => k_is)
    (case z_sum => k_is)
    (case z_max => k_is)
    (case z_min => k_is)
    (case z_isinstance => k_is)
    (case z_bool => k_is)
    (case z_range => k_is)
    (case z_zip => k_is)
    (case z_enumerate => k_is)
    (case z_dict => k_is)
    (case z_set => k_is)
    case d_told_names =>
      refine' Ip.dat_of ?a ?l ?c ?k
      (case a => k_is); (case l => k_is); (case c => k_is); (case k => k_is)
    case d_does_tell =>
      refine' Ip.dat_of ?a ?l ?c ?k
      (case a => k_is); (case l => k_is); (case c => k_is); (case k => k_is)
    case d_all_parts_of =>
      refine' Ip.dat_of ?a ?l ?c ?k
      (case a => k_is); (case l => k_is); (case c => k_is); (case k => k_is)
    case d_least_tellers =>
      refine' Ip.dat_of ?a ?l ?c ?k
      (case a => k_is); (case l => k_is); (case c => k_is); (case k => k_is)
    case d_kept_rules =>
      refine' Ip.dat_of ?a ?l ?c ?k
      (case a => k_is); (case l => k_is); (case c => k_is); (case k => k_is)
    case d_same_rules =>
      refine' Ip.dat_of ?a ?l ?c ?k
      (case a => k_is); (case l => k_is); (case c => k_is); (case k => k_is)
    case d_told_by_parts =>
      refine' Ip.dat_of ?a ?l ?c ?k
      (case a => k_is); (case l => k_is); (case c => k_is); (case k => k_is)
    case d_lost_rules =>
      refine' Ip.dat_of ?a ?l ?c ?k
      (case a => k_is); (case l => k_is); (case c => k_is); (case k => k_is)
    case d__law_box =>
      refine' Ip.dat_of ?a ?l ?c ?k
      (case a => k_is); (case l => k_is); (case c => k_is); (case k => k_is)
    case d__law_load =>
      refine' Ip.dat_of ?a ?l ?c ?k
      (case a => k_is); (case l => k_is); (case c => k_is); (case k => k_is)
    case d__law_draw =>
      refine' Ip.dat_of ?a ?l ?c ?k
      (case a => k_is); (case l => k_is); (case c => k_is); (case k => k_is)
    case d__law_same =>
      refine' Ip.dat_of ?a ?l ?c ?k
      (case a => k_is); (case l => k_is); (case c => k_is); (case k => k_is)
    case d__law_rules =>
      refine' Ip.dat_of ?a ?l ?c ?k
      (case a => k_is); (case l => k_is); (case c => k_is); (case k => k_is)
    case d__law_parts =>
      refine' Ip.dat_of ?a ?l ?c ?k
      (case a => k_is); (case l => k_is); (case c => k_is); (case k => k_is)
    case d__law_whole =>
      refine' Ip.dat_of ?a ?l ?c ?k
      (case a => k_is); (case l => k_is); (case c => k_is); (case k => k_is)
    case d__law_tells =>
      refine' Ip.dat_of ?a ?l ?c ?k
      (case a => k_is); (case l => k_is); (case c => k_is); (case k => k_is)
    case d_law =>
      refine' Ip.dat_of ?a ?l ?c ?k
      (case a => k_is); (case l => k_is); (case c => k_is); (case k => k_is)
