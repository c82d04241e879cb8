import PyProof.Rows.All
import Wide.All
import OpenK.AllK
import Wide.FinOn
import KE.DataEq
import KE.DataCmp
import KE.DataIsa
import KE.DataAny
import KE.DataMinMax
import KE.SortData
import HandS.ForMost
import HandS.Zip
import HandS.Rev
import HandS.Walk
import HandS.TupAny
import HandS.TupMul
import HandS.Style
import HandS.TupLe
import HandS.Flow
import PySem.Challenge.RW_schemasmoved_k68_whole_windows
set_option Elab.async false
set_option linter.all false
set_option maxRecDepth 100000
/-! IpA: an intermediate language of slots, and its evaluator over plain data. -/
namespace Ip

/-- plain data; texts are lists of code points; box: the law's tape; fn: a def as a value -/
inductive D where
  | non | bl (b : Bool) | int (i : Int) | str (s : List Nat)
  | tup (xs : List D) | lst (xs : List D) | dic (kvs : List (D × D)) | set (xs : List D) | box | fn (f : Nat)
  deriving Inhabited

/-- the tape: its cells, its registers -/
abbrev T := List Int × List Int
abbrev Env := List (Option (Bool × D))
def szL : Nat := 16777216

/-! ### equality, order, truth -/
mutual
def eqD : D → D → Bool
  | .non, .non => true
  | .bl a, .bl b => a == b
  | .bl a, .int j => (if a then 1 else 0) == j
  | .int i, .bl b => i == (if b then 1 else 0)
  | .int i, .int j => i == j
  | .str x, .str y => x == y
  | .lst xs, .lst ys => eqDs xs ys
  | .tup xs, .tup ys => eqDs xs ys
  | _, _ => false
def eqDs : List D → List D → Bool
  | [], [] => true
  | x :: xs, y :: ys => eqD x y && eqDs xs ys
  | _, _ => false
end
/-- plain, of this depth at most -/
def pl : Nat → D → Bool
  | _, .non | _, .bl _ | _, .int _ | _, .str _ => true
  | n + 1, .tup xs | n + 1, .lst xs => xs.all (pl n)
  | _, _ => false
mutual
/-- the two can be compared by < -/
def alikeD : D → D → Bool
  | .non, .non => true
  | .bl _, .bl _ => true
  | .int _, .int _ => true
  | .str _, .str _ => true
  | .lst xs, .lst ys => alikeDs xs ys
  | .tup xs, .tup ys => alikeDs xs ys
  | _, _ => false
def alikeDs : List D → List D → Bool
  | x :: xs, y :: ys => alikeD x y && alikeDs xs ys
  | [], _ => true
  | _ :: _, [] => true
end
def ltN : List Nat → List Nat → Bool
  | [], [] => false
  | [], _ :: _ => true
  | _ :: _, [] => false
  | x :: xs, y :: ys => if x = y then ltN xs ys else decide (x < y)
mutual
def ltD : D → D → Bool
  | .bl a, .bl b => !a && b
  | .int i, .int j => decide (i < j)
  | .str x, .str y => ltN x y
  | .lst xs, .lst ys => ltDs xs ys
  | .tup xs, .tup ys => ltDs xs ys
  | _, _ => false
def ltDs : List D → List D → Bool
  | [], [] => false
  | [], _ :: _ => true
  | _ :: _, [] => false
  | x :: xs, y :: ys => if eqD x y then ltDs xs ys else ltD x y
end
def isNon : D → Bool
  | .non => true
  | _ => false
def truD : D → Option Bool
  | .non => some false
  | .bl b => some b
  | .int i => some (i != 0)
  | .str s => if s.length ≤ szL then some (!s.isEmpty) else none
  | .tup xs | .lst xs => some (!xs.isEmpty)
  | .dic kvs => some (!kvs.isEmpty)
  | _ => none

/-! ### operations -/
inductive Op where | add | sub | mul | fdiv | mod | pow
inductive Cp where | eq | ne | lt | le | gt | ge | is | isNot | in_ | notIn
def mulOk (i j : Int) : Bool := (decide (-(2 ^ 64) < i) && decide (i < 2 ^ 64)) || (decide (-(2 ^ 64) < j) && decide (j < 2 ^ 64))
def repL (k : Int) (xs : List D) : List D := (List.replicate k.toNat xs).flatten
def binD : Op → D → D → Option D
  | .add, .int i, .int j => some (.int (i + j))
  | .add, .str x, .str y => if x.length + y.length ≤ szL then some (.str (x ++ y)) else none
  | .add, .tup xs, .tup ys => if xs.length + ys.length ≤ szL then some (.tup (xs ++ ys)) else none
  | .add, .lst xs, .lst ys => if xs.length + ys.length ≤ szL then some (.lst (xs ++ ys)) else none
  | .sub, .int i, .int j => some (.int (i - j))
  | .mul, .int i, .int j => if mulOk i j then some (.int (i * j)) else none
  | .mul, .tup xs, .int k => if 1 ≤ k ∧ k ≤ 1000 ∧ xs.length ≤ 1000 then some (.tup (repL k xs)) else none
  | .mul, .lst xs, .int k => if k ≤ 1000000 ∧ -1000000 ≤ k ∧ xs.length * k.toNat ≤ szL then some (.lst (repL k xs)) else none
  | .fdiv, .int i, .int j => if 0 < j ∧ j < 1073741824 then some (.int (i / j)) else none
  | .mod, .int i, .int j => if 0 < j then some (.int (i % j)) else none
  | _, _, _ => none
def inD (x : D) : D → Option Bool
  | .lst xs | .tup xs => if pl 60 x && xs.all (pl 59) then some (xs.any fun y => eqD y x) else none
  | .str t => match x with
    | .str [c] => some (decide (c ∈ t))
    | _ => none
  | _ => none
def ordOk (x y : D) : Bool := alikeD x y && !isNon x && pl 60 x && pl 60 y
def cmpD : Cp → D → D → Option Bool
  | .eq, x, y => if pl 60 x && pl 60 y then some (eqD x y) else none
  | .ne, x, y => if pl 60 x && pl 60 y then some (!eqD x y) else none
  | .lt, x, y => if ordOk x y then some (ltD x y) else none
  | .gt, x, y => if ordOk x y then some (ltD y x) else none
  | .le, x, y => if ordOk x y then some (!ltD y x) else none
  | .ge, x, y => if ordOk x y then some (!ltD x y) else none
  | .is, x, .non => some (isNon x)
  | .isNot, x, .non => some (!isNon x)
  | .is, .bl a, .bl b => some (a == b)
  | .isNot, .bl a, .bl b => some (!(a == b))
  | .in_, x, c => inD x c
  | .notIn, x, c => (inD x c).map not
  | _, _, _ => none
/-- the place that an index means -/
def ixP (n : Nat) (i : Int) : Option Nat := if 0 ≤ i then (if i < n then some i.toNat else none) else if -(n : Int) ≤ i then some (i + n).toNat else none
def subD : D → D → Option D
  | .tup xs, .int i | .lst xs, .int i => (ixP xs.length i).bind fun j => xs[j]?
  | .str s, .int i => if s.length ≤ szL then (ixP s.length i).bind fun j => (s[j]?).map fun c => .str [c] else none
  | _, _ => none
/-- a slice's end -/
def sIx (n d : Nat) : Option Int → Nat
  | none => d
  | some v => if v < 0 then (v + (n : Int)).toNat else min v.toNat n
def cutL {α : Type} (xs : List α) (lo hi : Option Int) : List α := (xs.drop (sIx xs.length 0 lo)).take (sIx xs.length xs.length hi - sIx xs.length 0 lo)
def cutD : D → Option Int → Option Int → Option D
  | .tup xs, lo, hi => some (.tup (cutL xs lo hi))
  | .lst xs, lo, hi => some (.lst (cutL xs lo hi))
  | .str s, lo, hi => if s.length ≤ szL then some (.str (cutL s lo hi)) else none
  | _, _, _ => none
def revD : D → Option D
  | .tup xs => some (.tup xs.reverse)
  | .lst xs => some (.lst xs.reverse)
  | .str s => if s.length ≤ szL then some (.str s.reverse) else none
  | _ => none
def isStr : D → Bool
  | .str _ => true
  | _ => false

/-- types for isinstance -/
inductive Ty where | int | bool | str | tuple | list
def isiB : Ty → D → Bool
  | .int, .int _ => true
  | .int, .bl _ => true
  | .bool, .bl _ => true
  | .str, .str _ => true
  | .tuple, .tup _ => true
  | .list, .lst _ => true
  | _, _ => false
def isiD (t : Ty) (d : D) : Option Bool := if pl 60 d then some (isiB t d) else none

/-! ### sorting -/
def insB {α : Type} (lt : α → α → Bool) (x : α) : List α → List α
  | [] => [x]
  | y :: ys => if lt x y then x :: y :: ys else y :: insB lt x ys
/-- stable: later equal ones stand behind -/
def sortB {α : Type} (lt : α → α → Bool) (xs : List α) : List α := xs.foldl (fun acc x => insB lt x acc) []
def sortD (xs : List D) : List D := sortB ltD xs
def isTupC : D → Bool
  | .tup (_ :: _) => true
  | _ => false
def isAtom : D → Bool
  | .int _ | .str _ | .bl _ | .lst _ => true
  | _ => false
def sortable (xs : List D) : Bool := (xs.all fun x => xs.all fun y => alikeD x y) && xs.all (pl 59) && (xs.all isTupC || xs.all isAtom || (decide (xs.length ≤ 1) && xs.all fun x => !isNon x))

/-! ### builtins -/
/-- the digits of a number -/
def txtI (i : Int) : List Nat := ((toString i : String) : PySem.Str).cps.toList
inductive Bi where | len | int | str | all | any | list | tuple | sorted | sum | max | min
def intsOf : List D → Option (List Int)
  | [] => some []
  | .int i :: xs => (intsOf xs).map fun r => i :: r
  | _ => none
def blsOf : List D → Option (List Bool)
  | [] => some []
  | .bl b :: xs => (blsOf xs).map fun r => b :: r
  | _ => none
def biD : Bi → List D → Option D
  | .len, [.tup xs] | .len, [.lst xs] => some (.int xs.length)
  | .len, [.str s] => if s.length ≤ szL then some (.int s.length) else none
  | .int, [.int i] => some (.int i)
  | .all, [.lst xs] => (blsOf xs).map fun bs => .bl (bs.all id)
  | .any, [.lst xs] => (blsOf xs).map fun bs => .bl (bs.any id)
  | .list, [.tup xs] | .list, [.lst xs] => some (.lst xs)
  | .tuple, [.tup xs] | .tuple, [.lst xs] => some (.tup xs)
  | .sorted, [.lst xs] | .sorted, [.tup xs] => if sortable xs then some (.lst (sortD xs)) else none
  | .sum, [.lst xs] => (intsOf xs).map fun ns => .int ns.sum
  | .max, [.int i, .int j] => some (.int (if j > i then j else i))
  | .min, [.int i, .int j] => some (.int (if j < i then j else i))
  | .max, [.lst xs] | .max, [.tup xs] => (intsOf xs).bind fun ns => match ns with
    | [] => none
    | n :: r => some (.int (r.foldl max n))
  | .min, [.lst xs] | .min, [.tup xs] => (intsOf xs).bind fun ns => match ns with
    | [] => none
    | n :: r => some (.int (r.foldl min n))
  | .str, [.int i] => if i.natAbs.log2 < 1920 then some (.str (txtI i)) else none
  | _, _ => none

/-! ### what a loop walks -/
inductive Ik where | seq | rng | rngC (c : Int) | zip | enum
def rngL (lo : Int) (n : Nat) : List D := (List.range n).map fun (i : Nat) => .int (lo + (i : Int))
def rngCL (lo c : Int) (n : Nat) : List D := (List.range n).map fun (i : Nat) => .int (lo + (i : Int) * c)
def seqD : D → Option (List D)
  | .tup xs | .lst xs => some xs
  | _ => none
def itD : Ik → List D → Option (List D)
  | .seq, [.str s] => if s.length ≤ szL then some (s.map fun c => .str [c]) else none
  | .seq, [d] => seqD d
  | .rng, [.int j] => if j ≤ (szL : Int) ∧ -1000000 ≤ j then some (rngL 0 j.toNat) else none
  | .rng, [.int i, .int j] => if j - i ≤ (szL : Int) ∧ i.natAbs ≤ 2 ^ 61 ∧ j.natAbs ≤ 2 ^ 61 then some (rngL i (j - i).toNat) else none
  | .rngC c, [.int i, .int j] => if c = -1 ∧ i - j ≤ (szL : Int) ∧ i.natAbs ≤ 2 ^ 61 ∧ j.natAbs ≤ 2 ^ 61 then some (rngCL i (-1) (i - j).toNat) else none
  | .zip, [.lst xs, .lst ys] | .zip, [.tup xs, .tup ys] => some (List.zipWith (fun x y => .tup [x, y]) xs ys)
  | .enum, [.lst xs] => some (xs.zipIdx.map fun p => .tup [.int (p.2 : Nat), p.1])
  | _, _ => none

/-! ### methods that only read -/
inductive Me where | count | index | join | upper
def meD : Me → D → List D → Option D
  | _, _, _ => none

/-! ### the language -/
inductive Tg where
  | nm (i : Nat)
  | tp (ts : List Tg)
inductive E where
  | bad
  | loc (i : Nat)
  | con (d : D)
  | glo (d : D)
  | bin (o : Op) (a b : E)
  | neg (a : E)
  | not_ (a : E)
  | and_ (a b : E)
  | or_ (a b : E)
  | ite (c a b : E)
  | cmp (o : Cp) (a b : E)
  | chain (o p : Cp) (a b c : E)
  | tup (es : List E)
  | lst (es : List E)
  | call (f : Nat) (es : List E)
  | bi (b : Bi) (es : List E)
  | isi (t : Ty) (a : E)
  | me (m : Me) (a : E) (es : List E)
  | sub (a i : E)
  | sli (a : E) (lo hi : Option E)
  | rev (a : E)
  | lc (own : List Nat) (t : Tg) (k : Ik) (es cs : List E) (e : E)
inductive S where
  | bad
  | fz (is : List Nat) (s : S)
  | set (i : Nat) (w : Bool) (e : E)
  | par (is : List (Nat × Bool)) (es : List E)
  | tgt (ts : List Tg) (e : E)
  | aug (i : Nat) (o : Op) (e : E)
  | app (i : Nat) (e : E)
  | ext (i : Nat) (e : E)
  | pop (t : Option Tg) (i : Nat) (e : Option E)
  | sti (i : Nat) (k v : E)
  | exp (e : E)
  | ret (e : E)
  | ife (c : E) (a b : List S)
  | for_ (t : Tg) (k : Ik) (es : List E) (b : List S)
  | whl (c : E) (b : List S)
  | brk | cnt | pas

/-! ### the evaluator -/
/-- calls -/
structure Gl where
  cl : Nat → List D → T → Option (D × T)
/-- as a value (kept, handed on), as an operand (read and forgotten), as a test -/
structure Ev where
  v : T → Option (D × T)
  o : T → Option (D × T)
  t : T → Option (Bool × T)
def mk (f : T → Option (D × T)) : Ev := ⟨f, f, fun s => (f s).bind fun p => (truD p.1).map fun b => (b, p.2)⟩
def evL (r : Env) (i : Nat) : Option D := match r[i]? with
  | some (some p) => some p.2
  | _ => none
def evV (r : Env) (i : Nat) : Option D := match r[i]? with
  | some (some (false, d)) => some d
  | _ => none
def wipeE (r : Env) : List Nat → Env
  | [] => r
  | v :: vs => (wipeE r vs).set v none
mutual
def bindT : Tg → D → Env → Option Env
  | .nm i, d, r => some (r.set i (some (false, d)))
  | .tp ts, .tup ds, r => bindTs ts ds r
  | .tp _, _, _ => none
def bindTs : List Tg → List D → Env → Option Env
  | [], [], r => some r
  | t :: ts, d :: ds, r => (bindT t d r).bind fun r' => bindTs ts ds r'
  | _, _, _ => none
end
/-- a comprehension's turns -/
def lcF (f : D → T → Option (Option D × T)) : List D → T → Option (List D × T)
  | [], s => some ([], s)
  | x :: xs, s => (f x s).bind fun p => (lcF f xs p.2).map fun q => (match p.1 with
    | some d => d :: q.1
    | none => q.1, q.2)
def intO : Option (D × T) → Option (Int × T)
  | some (.int i, s) => some (i, s)
  | _ => none
mutual
def ev (G : Gl) : E → Env → Ev
  | .bad, _ => mk fun _ => none
  | .loc i, r => ⟨fun s => (evV r i).map fun d => (d, s), fun s => (evL r i).map fun d => (d, s), fun s => (evL r i).bind fun d => (truD d).map fun b => (b, s)⟩
  | .con d, _ => mk fun s => some (d, s)
  | .glo d, _ => mk fun s => some (d, s)
  | .bin o a b, r => mk fun s => ((ev G a r).o s).bind fun p => ((ev G b r).o p.2).bind fun q => (binD o p.1 q.1).map fun d => (d, q.2)
  | .neg a, r => mk fun s => (intO ((ev G a r).o s)).map fun p => (.int (-p.1), p.2)
  | .not_ a, r => ⟨fun s => ((ev G a r).o s).bind fun p => (truD p.1).map fun b => (.bl (!b), p.2), fun s => ((ev G a r).o s).bind fun p => (truD p.1).map fun b => (.bl (!b), p.2),
      fun s => ((ev G a r).t s).map fun p => (!p.1, p.2)⟩
  | .and_ a b, r => ⟨fun s => ((ev G a r).v s).bind fun p => (truD p.1).bind fun k => if k then (ev G b r).v p.2 else some p, fun s => ((ev G a r).v s).bind fun p => (truD p.1).bind fun k => if k then (ev G b r).v p.2 else some p,
      fun s => ((ev G a r).t s).bind fun p => if p.1 then (ev G b r).t p.2 else some (false, p.2)⟩
  | .or_ a b, r => ⟨fun s => ((ev G a r).v s).bind fun p => (truD p.1).bind fun k => if k then some p else (ev G b r).v p.2, fun s => ((ev G a r).v s).bind fun p => (truD p.1).bind fun k => if k then some p else (ev G b r).v p.2,
      fun s => ((ev G a r).t s).bind fun p => if p.1 then some (true, p.2) else (ev G b r).t p.2⟩
  | .ite c a b, r => ⟨fun s => ((ev G c r).t s).bind fun p => if p.1 then (ev G a r).v p.2 else (ev G b r).v p.2, fun s => ((ev G c r).t s).bind fun p => if p.1 then (ev G a r).v p.2 else (ev G b r).v p.2,
      fun s => ((ev G c r).t s).bind fun p => if p.1 then (ev G a r).t p.2 else (ev G b r).t p.2⟩
  | .cmp o a b, r => mk fun s => ((ev G a r).o s).bind fun p => ((ev G b r).o p.2).bind fun q => (cmpD o p.1 q.1).map fun k => (.bl k, q.2)
  | .chain o o' a b c, r => mk fun s => ((ev G a r).o s).bind fun p => ((ev G b r).o p.2).bind fun q => (cmpD o p.1 q.1).bind fun k =>
      if k then ((ev G c r).o q.2).bind fun u => (cmpD o' q.1 u.1).map fun k' => (.bl k', u.2) else some (.bl false, q.2)
  | .tup es, r => mk fun s => (evs G es r s).map fun p => (.tup p.1, p.2)
  | .lst es, r => mk fun s => (evs G es r s).map fun p => (.lst p.1, p.2)
  | .call f es, r => mk fun s => (evs G es r s).bind fun p => G.cl f p.1 p.2
  | .bi b es, r => mk fun s => (evos G es r s).bind fun p => (biD b p.1).map fun d => (d, p.2)
  | .isi t a, r => mk fun s => ((ev G a r).o s).bind fun p => (isiD t p.1).map fun b => (.bl b, p.2)
  | .me m a es, r => mk fun s => ((ev G a r).o s).bind fun p => (evos G es r p.2).bind fun q => (meD m p.1 q.1).map fun d => (d, q.2)
  | .sub a i, r => mk fun s => ((ev G a r).o s).bind fun p => ((ev G i r).o p.2).bind fun q => (subD p.1 q.1).map fun d => (d, q.2)
  | .sli a lo hi, r => mk fun s => ((ev G a r).o s).bind fun p => (evo? G lo r p.2).bind fun l => (evo? G hi r l.2).bind fun h => (cutD p.1 l.1 h.1).map fun d => (d, h.2)
  | .rev a, r => mk fun s => ((ev G a r).o s).bind fun p => if isStr p.1 then none else (revD p.1).map fun d => (d, p.2)
  | .lc own t k es cs e, r => mk fun s => (evos G es r s).bind fun p => (itD k p.1).bind fun xs =>
      (lcF (fun x s => (bindT t x (wipeE r own)).bind fun r' => (evts G cs r' s).bind fun q => if q.1 then ((ev G e r').v q.2).map fun u => (some u.1, u.2) else some (none, q.2)) xs p.2).map fun q => (.lst q.1, q.2)
def evs (G : Gl) : List E → Env → T → Option (List D × T)
  | [], _, s => some ([], s)
  | e :: es, r, s => ((ev G e r).v s).bind fun p => (evs G es r p.2).map fun q => (p.1 :: q.1, q.2)
def evos (G : Gl) : List E → Env → T → Option (List D × T)
  | [], _, s => some ([], s)
  | e :: es, r, s => ((ev G e r).o s).bind fun p => (evos G es r p.2).map fun q => (p.1 :: q.1, q.2)
def evts (G : Gl) : List E → Env → T → Option (Bool × T)
  | [], _, s => some (true, s)
  | e :: es, r, s => ((ev G e r).t s).bind fun p => if p.1 then evts G es r p.2 else some (false, p.2)
def evo? (G : Gl) : Option E → Env → T → Option (Option Int × T)
  | none, _, s => some (none, s)
  | some e, r, s => (intO ((ev G e r).o s)).map fun p => (some p.1, p.2)
end

/-! ### statements -/
inductive R where
  | nx (r : Env) (s : T) | rt (d : D) (s : T) | bk (r : Env) (s : T) | ct (r : Env) (s : T)
def frz : List Nat → Env → Env
  | [], r => r
  | i :: is, r => match r[i]? with
    | some (some (true, d)) => frz is (r.set i (some (false, d)))
    | _ => frz is r
/-- only objects that may change are held as one's own -/
def isMut : D → Bool
  | .lst _ | .dic _ | .set _ => true
  | _ => false
def setO (r : Env) (i : Nat) (w : Bool) (d : D) : Env := r.set i (some (w && isMut d, d))
def setOs : List (Nat × Bool) → List D → Env → Option Env
  | [], [], r => some r
  | (i, w) :: is, d :: ds, r => setOs is ds (setO r i w d)
  | _, _, _ => none
def bindAll : List Tg → D → Env → Option Env
  | [], _, r => some r
  | t :: ts, d, r => (bindT t d r).bind fun r' => bindAll ts d r'
/-- the list of one's own at slot i -/
def ownL (r : Env) (i : Nat) : Option (List D) := match r[i]? with
  | some (some (true, .lst xs)) => some xs
  | _ => none
def seqR (a : Option R) (f : Env → T → Option R) : Option R := a.bind fun x => match x with
  | .nx r s => f r s
  | x => some x
def forF (f : D → Env → T → Option R) : List D → Env → T → Option R
  | [], r, s => some (.nx r s)
  | x :: xs, r, s => (f x r s).bind fun y => match y with
    | .nx r s => forF f xs r s
    | .ct r s => forF f xs r s
    | .bk r s => some (.nx r s)
    | .rt d s => some (.rt d s)
def whF (f : Env → T → Option (Bool × R)) : Nat → Env → T → Option R
  | 0, _, _ => none
  | n + 1, r, s => (f r s).bind fun y => if y.1 then (match y.2 with
    | .nx r s => whF f n r s
    | .ct r s => whF f n r s
    | .bk r s => some (.nx r s)
    | .rt d s => some (.rt d s)) else some y.2
mutual
def ex (G : Gl) (wn : Nat) : S → Env → T → Option R
  | .bad, _, _ => none
  | .fz is x, r, s => ex G wn x (frz is r) s
  | .set i w e, r, s => ((ev G e r).v s).map fun p => .nx (setO r i w p.1) p.2
  | .par is es, r, s => (evs G es r s).bind fun p => (setOs is p.1 r).map fun r' => .nx r' p.2
  | .tgt ts e, r, s => ((ev G e r).v s).bind fun p => (bindAll ts p.1 r).map fun r' => .nx r' p.2
  | .aug i o e, r, s => (evV r i).bind fun x => ((ev G e r).o s).bind fun p => (binD o x p.1).bind fun d => match d with
    | .int k => some (.nx (r.set i (some (false, .int k))) p.2)
    | _ => none
  | .app i e, r, s => ((ev G e r).v s).bind fun p => (ownL r i).bind fun xs => if xs.length < szL then some (.nx (r.set i (some (true, .lst (xs ++ [p.1])))) p.2) else none
  | .ext i e, r, s => ((ev G e r).v s).bind fun p => (ownL r i).bind fun xs => match p.1 with
    | .lst ys | .tup ys => if xs.length + ys.length ≤ szL then some (.nx (r.set i (some (true, .lst (xs ++ ys)))) p.2) else none
    | _ => none
  | .pop t i e, r, s => (evo? G e r s).bind fun p => (ownL r i).bind fun xs => (ixP xs.length (p.1.getD (-1))).bind fun j => (xs[j]?).bind fun d =>
      let r' := r.set i (some (true, .lst (xs.eraseIdx j)))
      match t with
      | none => some (.nx r' p.2)
      | some t => (bindT t d r').map fun r'' => .nx r'' p.2
  | .sti i k v, r, s => ((ev G v r).v s).bind fun p => (intO ((ev G k r).o p.2)).bind fun q => (ownL r i).bind fun xs => (ixP xs.length q.1).map fun j => .nx (r.set i (some (true, .lst (xs.set j p.1)))) q.2
  | .exp e, r, s => ((ev G e r).v s).map fun p => .nx r p.2
  | .ret e, r, s => ((ev G e r).v s).map fun p => .rt p.1 p.2
  | .ife c a b, r, s => ((ev G c r).t s).bind fun p => if p.1 then exs G wn a r p.2 else exs G wn b r p.2
  | .for_ t k es b, r, s => (evs G es r s).bind fun p => (itD k p.1).bind fun xs => forF (fun x r s => (bindT t x r).bind fun r' => exs G wn b r' s) xs r p.2
  | .whl c b, r, s => whF (fun r s => ((ev G c r).t s).bind fun p => if p.1 then (exs G wn b r p.2).map fun x => (true, x) else some (false, .nx r p.2)) wn r s
  | .brk, r, s => some (.bk r s)
  | .cnt, r, s => some (.ct r s)
  | .pas, r, s => some (.nx r s)
def exs (G : Gl) (wn : Nat) : List S → Env → T → Option R
  | [], r, s => some (.nx r s)
  | x :: xs, r, s => seqR (ex G wn x r s) fun r s => exs G wn xs r s
end

/-! ### defs -/
structure Df where
  np : Nat
  nl : Nat
  body : List S
def out : Option R → Option (D × T)
  | some (.rt d s) => some (d, s)
  | some (.nx _ s) => some (.non, s)
  | _ => none
/-- a call at level k; pr: what is not run here but given -/
def run (pr : Nat → Option (List D → T → Option (D × T))) (ds : Nat → Option Df) (wn : Nat) : Nat → Nat → List D → T → Option (D × T)
  | 0, _, _, _ => none
  | k + 1, f, as, s => match pr f with
    | some p => p as s
    | none => (ds f).bind fun d => if as.length = d.np then out (exs ⟨run pr ds wn k⟩ wn d.body (as.map (fun x => some (false, x)) ++ List.replicate d.nl none) s) else none

/-! ### the tape's draws -/
def loadE (cells : List Int) (b : Int) : Int × List Int × Int :=
  let f := (b * 48271 + 17) % 2147483629
  let g := (f * 69621 + 5) % 2147483587
  let h := (g * 40692 + 3) % 2147483563
  (f * 4611686014132420609 + g * 2147483647 + h, cells, h)
def sizeC (c : Int) : Int := if 0 ≤ c then 2 * c else -2 * c - 1
def loadD : List Int → Int → Int × List Int × Int
  | [], b => loadE [] b
  | c :: r, b => if 1000000000000000000 ≤ sizeC c then (sizeC c, r, b) else loadE r ((b * 69621 + sizeC c * 48271 + 11) % 2147483647)
/-- a draw of one of m digits -/
def drD (s : T) (m : Int) : Option (Int × T) := match s.2 with
  | [b1, b2] => if 0 < m ∧ m < 1073741824 then
      (if b1 < m then (let l := loadD s.1 b2; some (l.1 % m, (l.2.1, [l.1 / m, l.2.2]))) else some (b1 % m, (s.1, [b1 / m, b2]))) else none
  | _ => none

/-- the tape's draw as one of the table's givens -/
def pDraw : List D → T → Option (D × T)
  | [.box, .int m], s => (drD s m).map fun p => (.int p.1, p.2)
  | _, _ => none
/-- pr: what is given, ds: what is run; by number -/
structure Tb where
  pr : Nat → Option (List D → T → Option (D × T))
  ds : Nat → Option Df
  ft : PySem.Str → Option (Nat × Nat)
  wn : Nat
abbrev Tb.at (B : Tb) (k : Nat) : Gl := ⟨run B.pr B.ds B.wn k⟩
def env0 (n i : Nat) : Env := (List.replicate n none).set i (some (false, .box))
end Ip

/-! IpB: how data stands in the layer's heap. -/
namespace Ip
open PySem PySem.Spec PyProof.Rows L2

/-! ### data as the library's data -/
mutual
def D.py : D → PyData
  | .non => .none | .bl b => .bool b | .int i => .int i | .str s => .str ⟨s.toArray⟩
  | .tup xs => .tuple (pys xs)
  | .lst xs => .list (pys xs)
  | .dic _ | .set _ | .box | .fn _ => .none
def pys : List D → List PyData
  | [] => []
  | x :: xs => x.py :: pys xs
end
theorem pys_map : ∀ xs : List D, pys xs = xs.map D.py
  | [] => rfl
  | x :: xs => by rw [pys, pys_map xs, List.map_cons]
theorem str_inj {s t : List Nat} : ((⟨s.toArray⟩ : Str) == ⟨t.toArray⟩) = (s == t) := by
  rw [Bool.eq_iff_iff]
  simp
mutual
theorem eqD_py : ∀ (n : Nat) (x y : D), pl n x = true → pl n y = true → PyData.eqv x.py y.py = eqD x y
  | n, x, y, hx, hy => by
    cases x with
    | tup xs =>
      cases n with
      | zero => simp [pl] at hx
      | succ n =>
        cases y with
        | tup ys =>
          simp only [pl] at hx hy
          simp only [D.py, PyData.eqv, eqD]
          exact eqDs_py n xs ys hx hy
        | lst ys => simp [D.py, PyData.eqv, eqD]
        | _ => simp_all [D.py, PyData.eqv, eqD, pl]
    | lst xs =>
      cases n with
      | zero => simp [pl] at hx
      | succ n =>
        cases y with
        | lst ys =>
          simp only [pl] at hx hy
          simp only [D.py, PyData.eqv, eqD]
          exact eqDs_py n xs ys hx hy
        | tup ys => simp [D.py, PyData.eqv, eqD]
        | _ => simp_all [D.py, PyData.eqv, eqD, pl]
    | str s => cases y <;> simp_all [D.py, PyData.eqv, eqD, pl, str_inj]
    | non => cases y <;> simp_all [D.py, PyData.eqv, eqD, pl]
    | bl a => cases y <;> simp_all [D.py, PyData.eqv, eqD, pl]
    | int a => cases y <;> simp_all [D.py, PyData.eqv, eqD, pl]
    | dic _ => simp [pl] at hx
    | set _ => simp [pl] at hx
    | box => simp [pl] at hx
    | fn _ => simp [pl] at hx
theorem eqDs_py : ∀ (n : Nat) (xs ys : List D), xs.all (pl n) = true → ys.all (pl n) = true → PyData.eqvAll (pys xs) (pys ys) = eqDs xs ys
  | _, [], [], _, _ => by simp [pys, PyData.eqvAll, eqDs]
  | _, [], _ :: _, _, _ => by simp [pys, PyData.eqvAll, eqDs]
  | _, _ :: _, [], _, _ => by simp [pys, PyData.eqvAll, eqDs]
  | n, x :: xs, y :: ys, hx, hy => by
    simp only [List.all_cons, Bool.and_eq_true] at hx hy
    simp only [pys, PyData.eqvAll, eqDs]
    rw [eqD_py n x y hx.1 hy.1, eqDs_py n xs ys hx.2 hy.2]
end
theorem pl_mono : ∀ (n m : Nat) (x : D), n ≤ m → pl n x = true → pl m x = true
  | n, m, x, hm, hx => by
    cases x with
    | tup xs =>
      cases n with
      | zero => simp [pl] at hx
      | succ n =>
        cases m with
        | zero => omega
        | succ m =>
          simp only [pl, List.all_eq_true] at hx ⊢
          exact fun y hy => pl_mono n m y (by omega) (hx y hy)
    | lst xs =>
      cases n with
      | zero => simp [pl] at hx
      | succ n =>
        cases m with
        | zero => omega
        | succ m =>
          simp only [pl, List.all_eq_true] at hx ⊢
          exact fun y hy => pl_mono n m y (by omega) (hx y hy)
    | _ => simp_all [pl]
mutual
theorem pl_plain : ∀ (n : Nat) (x : D), pl n x = true → x.py.plain = true ∧ x.py.depth ≤ n
  | n, x, h => by
    cases x with
    | tup xs =>
      cases n with
      | zero => simp [pl] at h
      | succ n =>
        simp only [pl] at h
        obtain ⟨h1, h2⟩ := pls_plain n xs h
        simp only [D.py, PyData.plain, PyData.depth]
        exact ⟨h1, by omega⟩
    | lst xs =>
      cases n with
      | zero => simp [pl] at h
      | succ n =>
        simp only [pl] at h
        obtain ⟨h1, h2⟩ := pls_plain n xs h
        simp only [D.py, PyData.plain, PyData.depth]
        exact ⟨h1, by omega⟩
    | _ => simp_all [D.py, PyData.plain, PyData.depth, pl]
theorem pls_plain : ∀ (n : Nat) (xs : List D), xs.all (pl n) = true → PyData.plainAll (pys xs) = true ∧ PyData.depthAll (pys xs) ≤ n
  | _, [], _ => by simp [pys, PyData.plainAll, PyData.depthAll]
  | n, x :: xs, h => by
    simp only [List.all_cons, Bool.and_eq_true] at h
    obtain ⟨a1, a2⟩ := pl_plain n x h.1
    obtain ⟨b1, b2⟩ := pls_plain n xs h.2
    simp only [pys, PyData.plainAll, PyData.depthAll, Bool.and_eq_true]
    exact ⟨⟨a1, b1⟩, by omega⟩
end
mutual
theorem alike_py : ∀ x y : D, alikeD x y = true → PySem.W.alike x.py y.py = true
  | .non, y, h => by cases y <;> simp_all [alikeD, D.py, PySem.W.alike]
  | .bl _, y, h => by cases y <;> simp_all [alikeD, D.py, PySem.W.alike]
  | .int _, y, h => by cases y <;> simp_all [alikeD, D.py, PySem.W.alike]
  | .str _, y, h => by cases y <;> simp_all [alikeD, D.py, PySem.W.alike]
  | .lst xs, y, h => by
    cases y with
    | lst ys =>
      simp only [alikeD] at h
      simp only [D.py, PySem.W.alike]
      exact alikes_py xs ys h
    | _ => simp_all [alikeD]
  | .tup xs, y, h => by
    cases y with
    | tup ys =>
      simp only [alikeD] at h
      simp only [D.py, PySem.W.alike]
      exact alikes_py xs ys h
    | _ => simp_all [alikeD]
  | .dic _, y, h => by cases y <;> simp_all [alikeD]
  | .set _, y, h => by cases y <;> simp_all [alikeD]
  | .box, y, h => by cases y <;> simp_all [alikeD]
  | .fn _, y, h => by cases y <;> simp_all [alikeD]
theorem alikes_py : ∀ xs ys : List D, alikeDs xs ys = true → PySem.W.alikeAll (pys xs) (pys ys) = true
  | [], _, _ => by simp [pys, PySem.W.alikeAll]
  | _ :: _, [], _ => by simp [pys, PySem.W.alikeAll]
  | x :: xs, y :: ys, h => by
    simp only [alikeDs, Bool.and_eq_true] at h
    simp only [pys, PySem.W.alikeAll, Bool.and_eq_true]
    exact ⟨alike_py x y h.1, alikes_py xs ys h.2⟩
end
theorem ltN_lt : ∀ x y : List Nat, ltN x y = decide (x < y)
  | [], [] => by simp [ltN]
  | [], _ :: _ => by simp [ltN]
  | _ :: _, [] => by simp [ltN]
  | x :: xs, y :: ys => by
    rw [ltN]
    by_cases h : x = y
    · subst h
      rw [if_pos rfl, ltN_lt xs ys]
      simp
    · rw [if_neg h]
      simp [List.cons_lt_cons_iff, h]
mutual
theorem ltD_py : ∀ (n : Nat) (x y : D), pl n x = true → pl n y = true → alikeD x y = true → PySem.W.dataLt x.py y.py = ltD x y
  | n, x, y, hx, hy, h => by
    cases x with
    | non => cases y <;> simp_all [alikeD, D.py, PySem.W.dataLt, PySem.W.keyToks, ltD, PyProof.Rows.lexLt]
    | bl a =>
      cases y with
      | bl b => cases a <;> cases b <;> simp [D.py, PySem.W.dataLt_bool, ltD, b2i]
      | _ => simp_all [alikeD]
    | int a =>
      cases y with
      | int b => simp only [D.py, PySem.W.dataLt_int, ltD]
      | _ => simp_all [alikeD]
    | str a =>
      cases y with
      | str b => simp only [D.py, PySem.W.dataLt_str, ltD, ltN_lt]
      | _ => simp_all [alikeD]
    | lst xs =>
      cases n with
      | zero => simp [pl] at hx
      | succ n =>
        cases y with
        | lst ys =>
          simp only [pl] at hx hy
          simp only [alikeD] at h
          show PyProof.Rows.lexLt _ _ _ = _
          simp only [D.py, PySem.W.keyToks, ltD]
          exact ltDs_py n xs ys hx hy h
        | _ => simp_all [alikeD]
    | tup xs =>
      cases n with
      | zero => simp [pl] at hx
      | succ n =>
        cases y with
        | tup ys =>
          simp only [pl] at hx hy
          simp only [alikeD] at h
          show PyProof.Rows.lexLt _ _ _ = _
          simp only [D.py, PySem.W.keyToks, ltD]
          exact ltDs_py n xs ys hx hy h
        | _ => simp_all [alikeD]
    | dic _ => simp [pl] at hx
    | set _ => simp [pl] at hx
    | box => simp [pl] at hx
    | fn _ => simp [pl] at hx
theorem ltDs_py : ∀ (n : Nat) (xs ys : List D), xs.all (pl n) = true → ys.all (pl n) = true → alikeDs xs ys = true →
    PyProof.Rows.lexLt PyProof.Rows.itemOrd (PySem.W.keyToksAll (pys xs)) (PySem.W.keyToksAll (pys ys)) = ltDs xs ys
  | _, [], [], _, _, _ => by simp [pys, ltDs, PyProof.Rows.lex_irrefl]
  | _, [], y :: ys, _, _, _ => by
    simp only [pys, PySem.W.toks_all_cons, ltDs]
    simp only [PySem.W.keyToksAll]
    rw [PyProof.Rows.lex_diff (O := PyProof.Rows.itemOrd) (by simp)]
    simp [PyProof.Rows.itemLt]
  | _, x :: xs, [], _, _, _ => by
    simp only [pys, PySem.W.toks_all_cons, ltDs]
    simp only [PySem.W.keyToksAll]
    rw [PyProof.Rows.lex_diff (O := PyProof.Rows.itemOrd) (by simp)]
    simp [PyProof.Rows.itemLt]
  | n, x :: xs, y :: ys, hx, hy, h => by
    simp only [List.all_cons, Bool.and_eq_true] at hx hy
    simp only [alikeDs, Bool.and_eq_true] at h
    simp only [pys]
    rw [PySem.W.dataLt_cons (alike_py x y h.1), eqD_py n x y hx.1 hy.1, ltD_py n x y hx.1 hy.1 h.1, ltDs_py n xs ys hx.2 hy.2 h.2, ltDs]
end

/-! ### how data stands in the abstract heap -/
/-- the world of one def's run: the written part, the tape's list and its cells, the entry's heap and what was frozen then -/
structure Wd where
  K : PySem.W.Frag
  ba : Addr
  ca : Addr
  H0 : Hp
  F0 : Addr → Prop
/-- a tuple of the written part -/
def KTup (K : PySem.W.Frag) (a : Addr) (xs : List V) : Prop :=
  ∃ (o : Obj) (its : Array Value) (n : Nat), K.lookup a = some o ∧ o.cls = .type "tuple" ∧ o.data = .seq its n ∧ its.size ≤ sizeLine ∧ Vals xs its.toList
mutual
/-- d stands at v, for good: F are the addresses that nothing will change -/
def Rep (W : Wd) (F : Addr → Prop) (H : Hp) : D → V → Prop
  | .non, v => v = .non
  | .bl b, v => v = .bl b
  | .int i, v => v = .int i
  | .str s, v => v = .str ⟨s.toArray⟩
  | .tup ds, v => ∃ a vs, v = .ref a ∧ vs.length ≤ sizeLine ∧ ((F a ∧ H a = some (.tup vs)) ∨ KTup W.K a vs) ∧ RepL W F H ds vs
  | .lst ds, v => ∃ a vs, v = .ref a ∧ vs.length ≤ sizeLine ∧ (F a ∧ H a = some (.lst vs)) ∧ RepL W F H ds vs
  | .box, v => v = .ref W.ba
  | .dic _, _ => False
  | .set _, _ => False
  | .fn _, _ => False
def RepL (W : Wd) (F : Addr → Prop) (H : Hp) : List D → List V → Prop
  | [], vs => vs = []
  | d :: ds, vs => ∃ v r, vs = v :: r ∧ Rep W F H d v ∧ RepL W F H ds r
end
/-- d is read off v: a list may still be changed by its owner -/
def Top (W : Wd) (F : Addr → Prop) (H : Hp) : D → V → Prop
  | .lst ds, v => ∃ a vs, v = .ref a ∧ vs.length ≤ sizeLine ∧ H a = some (.lst vs) ∧ RepL W F H ds vs
  | d, v => Rep W F H d v
theorem Rep.top {W : Wd} {F : Addr → Prop} {H : Hp} : ∀ {d : D} {v : V}, Rep W F H d v → Top W F H d v
  | .lst ds, v, h => by
    simp only [Rep] at h
    obtain ⟨a, vs, e, z, ⟨_, h1⟩, h2⟩ := h
    exact ⟨a, vs, e, z, h1, h2⟩
  | .non, _, h | .bl _, _, h | .int _, _, h | .str _, _, h | .tup _, _, h | .box, _, h | .dic _, _, h | .set _, _, h | .fn _, _, h => h
theorem RepL.length {W : Wd} {F : Addr → Prop} {H : Hp} : ∀ {ds : List D} {vs : List V}, RepL W F H ds vs → vs.length = ds.length
  | [], vs, h => by
    simp only [RepL] at h
    rw [h]
    rfl
  | d :: ds, vs, h => by
    simp only [RepL] at h
    obtain ⟨v, r, rfl, _, h2⟩ := h
    rw [List.length_cons, List.length_cons, RepL.length h2]
theorem RepL.get {W : Wd} {F : Addr → Prop} {H : Hp} : ∀ {ds : List D} {vs : List V} {i : Nat} {d : D}, RepL W F H ds vs → ds[i]? = some d → ∃ v, vs[i]? = some v ∧ Rep W F H d v
  | [], _, _, _, _, e => by simp at e
  | x :: ds, vs, 0, d, h, e => by
    simp only [RepL] at h
    obtain ⟨v, r, rfl, h1, _⟩ := h
    simp at e
    subst e
    exact ⟨v, rfl, h1⟩
  | x :: ds, vs, i + 1, d, h, e => by
    simp only [RepL] at h
    obtain ⟨v, r, rfl, _, h2⟩ := h
    obtain ⟨v', e', h'⟩ := RepL.get (i := i) h2 (by simpa using e)
    exact ⟨v', by simpa using e', h'⟩
theorem RepL.append {W : Wd} {F : Addr → Prop} {H : Hp} : ∀ {ds es : List D} {vs us : List V}, RepL W F H ds vs → RepL W F H es us → RepL W F H (ds ++ es) (vs ++ us)
  | [], _, _, _, h, h' => by
    simp only [RepL] at h
    subst h
    exact h'
  | _ :: ds, _, _, _, h, h' => by
    simp only [RepL] at h
    obtain ⟨v, r, rfl, h1, h2⟩ := h
    exact ⟨v, _, rfl, h1, RepL.append h2 h'⟩
theorem RepL.set {W : Wd} {F : Addr → Prop} {H : Hp} {d : D} {v : V} (r : Rep W F H d v) : ∀ {ds : List D} {vs : List V} (i : Nat), RepL W F H ds vs → RepL W F H (ds.set i d) (vs.set i v)
  | [], _, _, h => by
    simp only [RepL] at h
    subst h
    rfl
  | _ :: ds, _, 0, h => by
    simp only [RepL] at h
    obtain ⟨v', r', rfl, _, h2⟩ := h
    exact ⟨v, r', rfl, r, h2⟩
  | _ :: ds, _, i + 1, h => by
    simp only [RepL] at h
    obtain ⟨v', r', rfl, h1, h2⟩ := h
    exact ⟨v', _, rfl, h1, RepL.set r i h2⟩
theorem RepL.take {W : Wd} {F : Addr → Prop} {H : Hp} : ∀ {ds : List D} {vs : List V} (n : Nat), RepL W F H ds vs → RepL W F H (ds.take n) (vs.take n)
  | _, _, 0, _ => by simp [RepL]
  | [], _, n + 1, h => by
    simp only [RepL] at h
    subst h
    simp [RepL]
  | _ :: ds, _, n + 1, h => by
    simp only [RepL] at h
    obtain ⟨v', r', rfl, h1, h2⟩ := h
    exact ⟨v', _, rfl, h1, RepL.take n h2⟩
theorem RepL.drop {W : Wd} {F : Addr → Prop} {H : Hp} : ∀ {ds : List D} {vs : List V} (n : Nat), RepL W F H ds vs → RepL W F H (ds.drop n) (vs.drop n)
  | _, _, 0, h => h
  | [], _, n + 1, h => by
    simp only [RepL] at h
    subst h
    simp [RepL]
  | _ :: ds, _, n + 1, h => by
    simp only [RepL] at h
    obtain ⟨v', r', rfl, h1, h2⟩ := h
    exact RepL.drop n h2
theorem RepL.eraseIdx {W : Wd} {F : Addr → Prop} {H : Hp} : ∀ {ds : List D} {vs : List V} (n : Nat), RepL W F H ds vs → RepL W F H (ds.eraseIdx n) (vs.eraseIdx n)
  | [], _, _, h => by
    simp only [RepL] at h
    subst h
    simp [RepL]
  | _ :: ds, _, 0, h => by
    simp only [RepL] at h
    obtain ⟨v', r', rfl, h1, h2⟩ := h
    exact h2
  | _ :: ds, _, n + 1, h => by
    simp only [RepL] at h
    obtain ⟨v', r', rfl, h1, h2⟩ := h
    exact ⟨v', _, rfl, h1, RepL.eraseIdx n h2⟩
theorem RepL.reverse {W : Wd} {F : Addr → Prop} {H : Hp} : ∀ {ds : List D} {vs : List V}, RepL W F H ds vs → RepL W F H ds.reverse vs.reverse
  | [], _, h => by
    simp only [RepL] at h
    subst h
    simp [RepL]
  | _ :: ds, _, h => by
    simp only [RepL] at h
    obtain ⟨v', r', rfl, h1, h2⟩ := h
    rw [List.reverse_cons, List.reverse_cons]
    exact RepL.append (RepL.reverse h2) ⟨v', [], rfl, h1, rfl⟩
theorem RepL.rep {W : Wd} {F : Addr → Prop} {H : Hp} {ds : List D} {vs : List V} (h : RepL W F H ds vs) : ∀ k : Nat, RepL W F H (List.replicate k ds).flatten (List.replicate k vs).flatten
  | 0 => by simp [RepL]
  | k + 1 => by
    rw [List.replicate_succ, List.replicate_succ, List.flatten_cons, List.flatten_cons]
    exact RepL.append h (RepL.rep h k)

/-! ### what keeps a standing -/
mutual
theorem Rep.mono {W : Wd} {F F' : Addr → Prop} {H H' : Hp} (hF : ∀ a, F a → F' a) (hH : ∀ a, F a → H' a = H a) : ∀ (d : D) (v : V), Rep W F H d v → Rep W F' H' d v
  | .tup ds, v, h => by
    simp only [Rep] at h ⊢
    obtain ⟨a, vs, e, z, h1, h2⟩ := h
    refine ⟨a, vs, e, z, ?_, RepL.mono hF hH ds vs h2⟩
    rcases h1 with ⟨f, q⟩ | q
    · exact .inl ⟨hF a f, (hH a f).trans q⟩
    · exact .inr q
  | .lst ds, v, h => by
    simp only [Rep] at h ⊢
    obtain ⟨a, vs, e, z, ⟨f, q⟩, h2⟩ := h
    exact ⟨a, vs, e, z, ⟨hF a f, (hH a f).trans q⟩, RepL.mono hF hH ds vs h2⟩
  | .non, _, h | .bl _, _, h | .int _, _, h | .str _, _, h | .box, _, h => h
  | .dic _, _, h | .set _, _, h | .fn _, _, h => by simp only [Rep] at h
theorem RepL.mono {W : Wd} {F F' : Addr → Prop} {H H' : Hp} (hF : ∀ a, F a → F' a) (hH : ∀ a, F a → H' a = H a) : ∀ (ds : List D) (vs : List V), RepL W F H ds vs → RepL W F' H' ds vs
  | [], _, h => h
  | d :: ds, vs, h => by
    simp only [RepL] at h ⊢
    obtain ⟨v, r, e, h1, h2⟩ := h
    exact ⟨v, r, e, Rep.mono hF hH d v h1, RepL.mono hF hH ds r h2⟩
end

/-! ### the tape -/
/-- the tape's state: its cells, its registers -/
def Tp (W : Wd) (s : T) (H : Hp) : Prop :=
  H W.ba = some (.lst (.ref W.ca :: s.2.map V.int)) ∧ H W.ca = some (.lst (s.1.map V.int)) ∧ W.ba ≠ W.ca ∧ s.1.length ≤ 63 ∧ s.2.length ≤ 3

/-- an evaluation has gone from H to H': nothing was changed but the tape; F' is now frozen -/
structure Ext (W : Wd) (F : Addr → Prop) (H : Hp) (F' : Addr → Prop) (H' : Hp) : Prop where
  keep : ∀ a o, H a = some o → a ≠ W.ba → a ≠ W.ca → H' a = some o
  mono : ∀ a, F a → F' a
  new : ∀ a, F' a → F a ∨ H a = none
  live : ∀ a, F' a → H' a ≠ none
  alive : ∀ a, H a ≠ none → H' a ≠ none

/-- the slots' data: r says what the slots hold; true: an object of one's own -/
structure Sim (W : Wd) (F : Addr → Prop) (r : Env) (s : T) (σ : L2.St) (H : Hp) : Prop where
  len : r.length = σ.length
  val : ∀ (i : Nat) (d : D), r[i]? = some (some (false, d)) → ∃ v, σ[i]? = some (some v) ∧ Rep W F H d v
  own : ∀ (i : Nat) (d : D), r[i]? = some (some (true, d)) → ∃ a, σ[i]? = some (some (.ref a)) ∧ Top W F H d (.ref a) ∧ ¬ F a ∧ W.H0 a = none ∧ H a ≠ none ∧ a ≠ W.ba ∧ a ≠ W.ca
  dis : ∀ (i j : Nat) (d d' : D) (a : Addr), i ≠ j → r[i]? = some (some (true, d)) → r[j]? = some (some (true, d')) → σ[i]? = some (some (.ref a)) → σ[j]? = some (some (.ref a)) → False
  old : ∀ a o, W.H0 a = some o → a ≠ W.ba → a ≠ W.ca → H a = some o
  f0 : ∀ a, W.F0 a → F a
  f1 : ∀ a, F a → W.F0 a ∨ W.H0 a = none
  f2 : ∀ a, F a → H a ≠ none
  f3 : ¬ F W.ba ∧ ¬ F W.ca
  tape : Tp W s H

section
variable {W : Wd} {F F' F'' : Addr → Prop} {H H' H'' : Hp} {r : Env} {s s' : T} {σ : L2.St}
theorem Tp.ba_some (t : Tp W s H) : H W.ba ≠ none := by rw [t.1]; simp
theorem Tp.ca_some (t : Tp W s H) : H W.ca ≠ none := by rw [t.2.1]; simp
theorem Ext.refl (h : ∀ a, F a → H a ≠ none) : Ext W F H F H := ⟨fun _ _ e _ _ => e, fun _ e => e, fun _ e => .inl e, h, fun _ e => e⟩
theorem Ext.trans (a : Ext W F H F' H') (b : Ext W F' H' F'' H'') : Ext W F H F'' H'' where
  keep := fun x o e h1 h2 => b.keep x o (a.keep x o e h1 h2) h1 h2
  mono := fun x e => b.mono x (a.mono x e)
  new := fun x e => by
    rcases b.new x e with q | q
    · exact a.new x q
    · refine .inr ?_
      cases z : H x with
      | none => rfl
      | some o => exact absurd q (a.alive x (by rw [z]; simp))
  live := b.live
  alive := fun x e => b.alive x (a.alive x e)
/-- what is frozen stays -/
theorem Ext.frozen (e : Ext W F H F' H') (f2 : ∀ a, F a → H a ≠ none) (f3 : ¬ F W.ba ∧ ¬ F W.ca) : ∀ a, F a → H' a = H a := fun a fa => by
  cases z : H a with
  | none => exact absurd z (f2 a fa)
  | some o => exact e.keep a o z (fun q => f3.1 (q ▸ fa)) (fun q => f3.2 (q ▸ fa))
theorem Ext.rep (e : Ext W F H F' H') (S : Sim W F r s σ H) {d : D} {v : V} (h : Rep W F H d v) : Rep W F' H' d v := Rep.mono e.mono (e.frozen S.f2 S.f3) d v h
theorem Ext.repL (e : Ext W F H F' H') (S : Sim W F r s σ H) {ds : List D} {vs : List V} (h : RepL W F H ds vs) : RepL W F' H' ds vs := RepL.mono e.mono (e.frozen S.f2 S.f3) ds vs h
theorem Ext.top (e : Ext W F H F' H') (S : Sim W F r s σ H) {d : D} {v : V} (h : Top W F H d v) (hb : ∀ a, v = .ref a → (∃ ds, d = .lst ds) → a ≠ W.ba ∧ a ≠ W.ca) : Top W F' H' d v := by
  cases d with
  | lst ds =>
    obtain ⟨a, vs, ea, z, h1, h2⟩ := h
    obtain ⟨n1, n2⟩ := hb a ea ⟨ds, rfl⟩
    exact ⟨a, vs, ea, z, e.keep a _ h1 n1 n2, e.repL S h2⟩
  | _ => exact e.rep S h
theorem Sim.ext (S : Sim W F r s σ H) (e : Ext W F H F' H') (t : Tp W s' H') : Sim W F' r s' σ H' where
  len := S.len
  val := fun i d h => let ⟨v, e1, q⟩ := S.val i d h; ⟨v, e1, e.rep S q⟩
  own := fun i d h => by
    obtain ⟨a, e1, q, nf, h0, hn, n1, n2⟩ := S.own i d h
    refine ⟨a, e1, e.top S q (fun b eb _ => by cases eb; exact ⟨n1, n2⟩), fun z => ?_, h0, e.alive a hn, n1, n2⟩
    rcases e.new a z with z | z
    · exact nf z
    · exact hn z
  dis := S.dis
  old := fun a o h n1 n2 => e.keep a o (S.old a o h n1 n2) n1 n2
  f0 := fun a h => e.mono a (S.f0 a h)
  f1 := fun a h => by
    rcases e.new a h with z | z
    · exact S.f1 a z
    · refine .inr ?_
      cases q : W.H0 a with
      | none => rfl
      | some o =>
        by_cases n1 : a = W.ba
        · exact absurd z (n1 ▸ S.tape.ba_some)
        · by_cases n2 : a = W.ca
          · exact absurd z (n2 ▸ S.tape.ca_some)
          · rw [S.old a o q n1 n2] at z; cases z
  f2 := e.live
  f3 := ⟨fun h => by
    rcases e.new _ h with z | z
    · exact S.f3.1 z
    · exact S.tape.ba_some z, fun h => by
    rcases e.new _ h with z | z
    · exact S.f3.2 z
    · exact S.tape.ca_some z⟩
  tape := t
/-- a new object -/
theorem Ext.laid (f2 : ∀ a, F a → H a ≠ none) {p : Addr} {o : HO} (hp : H p = none) : Ext W F H F (upd H p o) where
  keep := fun a q e _ _ => by rw [upd_ne (ne_of_none e hp)]; exact e
  mono := fun _ h => h
  new := fun _ h => .inl h
  live := fun a h => by
    by_cases e : a = p
    · subst e; rw [upd_same]; simp
    · rw [upd_ne e]; exact f2 a h
  alive := fun a h => by
    by_cases e : a = p
    · subst e; rw [upd_same]; simp
    · rw [upd_ne e]; exact h
theorem Tp.laid (t : Tp W s H) {p : Addr} {o : HO} (hp : H p = none) : Tp W s (upd H p o) := by
  obtain ⟨t1, t2, t3⟩ := t
  exact ⟨by rw [upd_ne (ne_of_none t1 hp)]; exact t1, by rw [upd_ne (ne_of_none t2 hp)]; exact t2, t3⟩
/-- freezing one more, new since H -/
theorem Ext.freeze (e : Ext W F H F' H') {a : Addr} (h : H a = none) (h' : H' a ≠ none) : Ext W F H (fun b => F' b ∨ b = a) H' where
  keep := e.keep
  mono := fun b q => .inl (e.mono b q)
  new := fun b q => by
    rcases q with q | rfl
    · exact e.new b q
    · exact .inr h
  live := fun b q => by
    rcases q with q | rfl
    · exact e.live b q
    · exact h'
  alive := e.alive
/-- an own object frozen -/
theorem Top.freeze {d : D} {a : Addr} (h : Top W F H d (.ref a)) : Rep W (fun b => F b ∨ b = a) H d (.ref a) := by
  cases d with
  | lst ds =>
    obtain ⟨b, vs, eb, z, h1, h2⟩ := h
    cases eb
    simp only [Rep]
    exact ⟨a, vs, rfl, z, ⟨.inr rfl, h1⟩, RepL.mono (fun _ q => .inl q) (fun _ _ => rfl) ds vs h2⟩
  | _ => exact Rep.mono (fun _ q => .inl q) (fun _ _ => rfl) _ _ h
theorem Top.mono {d : D} {v : V} (hF : ∀ a, F a → F' a) (hH : ∀ a, F a → H' a = H a) (hv : ∀ a o, v = .ref a → H a = some (.lst o) → H' a = some (.lst o)) (h : Top W F H d v) : Top W F' H' d v := by
  cases d with
  | lst ds =>
    obtain ⟨a, vs, ea, z, h1, h2⟩ := h
    exact ⟨a, vs, ea, z, hv a _ ea h1, RepL.mono hF hH ds vs h2⟩
  | _ => exact Rep.mono hF hH _ _ h
end
end Ip

/-! IpC: the operations. -/
namespace Ip
open PySem PySem.Spec PyProof.Rows L2

/-! ### the sort -/
section
variable {α : Type} {lt : α → α → Bool}
theorem insB_mem (x z : α) : ∀ l : List α, z ∈ insB lt x l ↔ z = x ∨ z ∈ l
  | [] => by simp [insB]
  | y :: l => by
    unfold insB
    split
    · simp
    · have ih := insB_mem x z l
      simp only [List.mem_cons, ih]
      constructor
      · rintro (h | h | h) <;> simp [h]
      · rintro (h | h | h) <;> simp [h]
theorem insB_len (x : α) : ∀ l : List α, (insB lt x l).length = l.length + 1
  | [] => rfl
  | y :: l => by
    unfold insB
    split
    · rfl
    · rw [List.length_cons, insB_len x l, List.length_cons]
theorem insB_sorted (h : PySem.W.TotalLe fun a b => !lt b a) (x : α) : ∀ l : List α, l.Pairwise (fun a b => (!lt b a) = true) → (insB lt x l).Pairwise (fun a b => (!lt b a) = true)
  | [], _ => by simp [insB]
  | y :: l, hp => by
    unfold insB
    rw [List.pairwise_cons] at hp
    by_cases c : lt x y = true
    · rw [if_pos c]
      refine List.pairwise_cons.mpr ⟨fun z hz => ?_, List.pairwise_cons.mpr hp⟩
      have hxy : (!lt y x) = true := by
        rcases h.total x y with q | q
        · exact q
        · rw [c] at q; cases q
      rcases List.mem_cons.mp hz with rfl | hz
      · exact hxy
      · exact h.trans x y z hxy (hp.1 z hz)
    · rw [if_neg c]
      refine List.pairwise_cons.mpr ⟨fun z hz => ?_, insB_sorted h x l hp.2⟩
      rcases (insB_mem x z l).mp hz with rfl | hz
      · simpa using c
      · exact hp.1 z hz
theorem insB_rank (h : PySem.W.TotalLe fun a b => !lt b a) (x c : α) : ∀ l : List α, l.Pairwise (fun a b => (!lt b a) = true) →
    (insB lt x l).filter (PySem.W.sameRank (fun a b => !lt b a) c) = l.filter (PySem.W.sameRank (fun a b => !lt b a) c) ++ [x].filter (PySem.W.sameRank (fun a b => !lt b a) c)
  | [], _ => by simp [insB]
  | y :: l, hp => by
    unfold insB
    rw [List.pairwise_cons] at hp
    by_cases q : lt x y = true
    · rw [if_pos q]
      by_cases hx : PySem.W.sameRank (fun a b => !lt b a) c x = true
      · have none : ∀ z ∈ y :: l, ¬ PySem.W.sameRank (fun a b => !lt b a) c z = true := fun z hz hc => by
          unfold PySem.W.sameRank at hx hc
          rw [Bool.and_eq_true] at hx hc
          have e1 : (!lt z y) = true := by
            rcases List.mem_cons.mp hz with rfl | hz
            · exact h.refl z
            · exact hp.1 z hz
          have e2 := h.trans y z c e1 hc.2
          have e3 := h.trans y c x e2 hx.1
          simp [q] at e3
        rw [List.filter_cons_of_pos (by exact hx), List.filter_eq_nil_iff.mpr none]
        simp [hx]
      · rw [List.filter_cons_of_neg (by exact hx)]
        simp [hx]
    · rw [if_neg q, List.filter_cons, List.filter_cons, insB_rank h x c l hp.2]
      split <;> rfl
theorem sortB_of (h : PySem.W.TotalLe fun a b => !lt b a) (l : List α) : sortB lt l = l.mergeSort fun a b => !lt b a := by
  have key : ∀ (l acc : List α), acc.Pairwise (fun a b => (!lt b a) = true) →
      (l.foldl (fun acc x => insB lt x acc) acc).Pairwise (fun a b => (!lt b a) = true) ∧ ∀ c, (l.foldl (fun acc x => insB lt x acc) acc).filter (PySem.W.sameRank (fun a b => !lt b a) c) = (acc ++ l).filter (PySem.W.sameRank (fun a b => !lt b a) c) := by
    intro l
    induction l with
    | nil => intro acc hp; exact ⟨hp, fun c => by simp⟩
    | cons x l ih =>
      intro acc hp
      obtain ⟨a, b⟩ := ih _ (insB_sorted h x acc hp)
      refine ⟨a, fun c => ?_⟩
      rw [List.foldl_cons, b c, List.filter_append, insB_rank h x c acc hp, ← List.filter_append, ← List.filter_append]
      simp
  obtain ⟨a, b⟩ := key l [] List.Pairwise.nil
  exact PySem.W.sort_one h _ _ a (PySem.W.sort_pairwise h l) fun c => (b c).trans (by rw [PySem.W.sort_stable h]; simp)
theorem insB_congr {lt' : α → α → Bool} (x : α) : ∀ l : List α, (∀ y ∈ l, lt x y = lt' x y) → insB lt x l = insB lt' x l
  | [], _ => rfl
  | y :: l, h => by
    unfold insB
    rw [h y List.mem_cons_self, insB_congr x l fun z hz => h z (List.mem_cons_of_mem _ hz)]
theorem sortB_congr {lt' : α → α → Bool} (l : List α) (h : ∀ x ∈ l, ∀ y ∈ l, lt x y = lt' x y) : sortB lt l = sortB lt' l := by
  have key : ∀ (m acc : List α), (∀ x ∈ m, x ∈ l) → (∀ x ∈ acc, x ∈ l) → m.foldl (fun acc x => insB lt x acc) acc = m.foldl (fun acc x => insB lt' x acc) acc := by
    intro m
    induction m with
    | nil => intro acc _ _; rfl
    | cons x m ih =>
      intro acc hm ha
      have hx := hm x List.mem_cons_self
      rw [List.foldl_cons, List.foldl_cons, insB_congr (lt' := lt') x acc fun y hy => h x hx y (ha y hy)]
      refine ih _ (fun z hz => hm z (List.mem_cons_of_mem _ hz)) fun z hz => ?_
      rcases (insB_mem x z acc).mp hz with rfl | hz
      · exact hx
      · exact ha z hz
  exact key l [] (fun _ h => h) (fun _ h => absurd h (by simp))
theorem sortB_mem (x : α) (l : List α) : x ∈ sortB lt l ↔ x ∈ l := by
  have key : ∀ (m acc : List α), x ∈ m.foldl (fun acc x => insB lt x acc) acc ↔ x ∈ acc ∨ x ∈ m := by
    intro m
    induction m with
    | nil => simp
    | cons y m ih =>
      intro acc
      rw [List.foldl_cons, ih, insB_mem, List.mem_cons]
      constructor
      · rintro ((h | h) | h) <;> simp [h]
      · rintro (h | h | h) <;> simp [h]
  rw [sortB, key]
  simp
theorem sortB_len (l : List α) : (sortB lt l).length = l.length := by
  have key : ∀ (m acc : List α), (m.foldl (fun acc x => insB lt x acc) acc).length = acc.length + m.length := by
    intro m
    induction m with
    | nil => simp
    | cons y m ih =>
      intro acc
      rw [List.foldl_cons, ih, insB_len, List.length_cons]
      omega
  rw [sortB, key]
  simp
end
theorem sortD_merge (xs : List D) (h : sortable xs = true) : sortD xs = xs.mergeSort (PySem.W.dataLe false D.py) := by
  unfold sortable at h
  simp only [Bool.and_eq_true, List.all_eq_true] at h
  obtain ⟨⟨h1, h2⟩, _⟩ := h
  have e : sortD xs = sortB (fun a b => PySem.W.dataLt a.py b.py) xs := by
    unfold sortD
    refine sortB_congr xs fun x hx y hy => ?_
    exact (ltD_py 59 x y (h2 x hx) (h2 y hy) (h1 x hx y hy)).symm
  exact e.trans (sortB_of (lt := fun a b : D => PySem.W.dataLt a.py b.py) (PySem.W.sortLe_total (PyProof.Rows.listOrd itemOrd) false fun b : D => PySem.W.keyToks b.py) xs)

/-! ### reading data off the heap -/
section
variable {W : Wd} {F : Addr → Prop} {H : Hp}
mutual
theorem Rep.dp : ∀ (n : Nat) (d : D) (v : V), pl n d = true → Rep W F H d v → Dp W.K H v d.py
  | n, d, v, hp, h => by
    cases d with
    | tup ds =>
      cases n with
      | zero => simp [pl] at hp
      | succ n =>
        simp only [pl] at hp
        simp only [Rep] at h
        obtain ⟨a, vs, rfl, z, h1, h2⟩ := h
        simp only [D.py]
        refine Dp.tup ?_ (RepL.dp n ds vs hp h2)
        rcases h1 with ⟨_, q⟩ | q
        · exact SqT.of q
        · exact .inr q
    | lst ds =>
      cases n with
      | zero => simp [pl] at hp
      | succ n =>
        simp only [pl] at hp
        simp only [Rep] at h
        obtain ⟨a, vs, rfl, z, ⟨_, q⟩, h2⟩ := h
        simp only [D.py]
        exact Dp.lst (SqL.of q) (RepL.dp n ds vs hp h2)
    | non => simp only [Rep] at h; subst h; exact Dp.non
    | bl b => simp only [Rep] at h; subst h; exact Dp.bl b
    | int i => simp only [Rep] at h; subst h; exact Dp.int i
    | str s => simp only [Rep] at h; subst h; exact Dp.str _
    | dic _ => simp [pl] at hp
    | set _ => simp [pl] at hp
    | box => simp [pl] at hp
    | fn _ => simp [pl] at hp
theorem RepL.dp : ∀ (n : Nat) (ds : List D) (vs : List V), ds.all (pl n) = true → RepL W F H ds vs → DpAll W.K H vs (pys ds)
  | _, [], _, _, h => by
    simp only [RepL] at h
    subst h
    exact DpAll.nil
  | n, d :: ds, _, hp, h => by
    simp only [List.all_cons, Bool.and_eq_true] at hp
    simp only [RepL] at h
    obtain ⟨v, r, rfl, h1, h2⟩ := h
    exact DpAll.cons (Rep.dp n d v hp.1 h1) (RepL.dp n ds r hp.2 h2)
end
theorem Top.dp {n : Nat} {d : D} {v : V} (hp : pl n d = true) (h : Top W F H d v) : Dp W.K H v d.py := by
  cases d with
  | lst ds =>
    cases n with
    | zero => simp [pl] at hp
    | succ n =>
      simp only [pl] at hp
      obtain ⟨a, vs, rfl, z, q, h2⟩ := h
      simp only [D.py]
      exact Dp.lst (SqL.of q) (RepL.dp n ds vs hp h2)
  | _ => exact Rep.dp (F := F) n _ _ hp h
theorem Top.lst {ds : List D} {v : V} (h : Top W F H (.lst ds) v) : ∃ a vs, v = .ref a ∧ vs.length ≤ sizeLine ∧ H a = some (.lst vs) ∧ RepL W F H ds vs := h
theorem Top.tup {ds : List D} {v : V} (h : Top W F H (.tup ds) v) : ∃ a vs, v = .ref a ∧ vs.length ≤ sizeLine ∧ ((F a ∧ H a = some (.tup vs)) ∨ KTup W.K a vs) ∧ RepL W F H ds vs := by
  have h' : Rep W F H (.tup ds) v := h
  simpa only [Rep] using h'
theorem tup_sq {a : Addr} {vs : List V} (h : (F a ∧ H a = some (.tup vs)) ∨ KTup W.K a vs) : SqT W.K H a vs := by
  rcases h with ⟨_, q⟩ | q
  · exact SqT.of q
  · exact .inr q
theorem Top.int {i : Int} {v : V} (h : Top W F H (.int i) v) : v = .int i := h
theorem Top.bl {b : Bool} {v : V} (h : Top W F H (.bl b) v) : v = .bl b := h
theorem Top.str {s : List Nat} {v : V} (h : Top W F H (.str s) v) : v = .str ⟨s.toArray⟩ := h
theorem Top.non {v : V} (h : Top W F H .non v) : v = .non := h
theorem szL_eq : szL = sizeLine := by rw [sizeLine_eq]; rfl

/-- a new object that holds d -/
def Fre (W : Wd) (F : Addr → Prop) (H : Hp) : D → Addr → Prop
  | .lst ds, a => ∃ vs : List V, vs.length ≤ sizeLine ∧ H a = some (.lst vs) ∧ RepL W F H ds vs
  | .tup ds, a => ∃ vs : List V, vs.length ≤ sizeLine ∧ H a = some (.tup vs) ∧ RepL W F H ds vs
  | _, _ => False
theorem Fre.freeze {d : D} {a : Addr} (h : Fre W F H d a) : Rep W (fun b => F b ∨ b = a) H d (.ref a) := by
  cases d with
  | lst ds =>
    obtain ⟨vs, z, h1, h2⟩ := h
    simp only [Rep]
    exact ⟨a, vs, rfl, z, ⟨.inr rfl, h1⟩, RepL.mono (fun _ q => .inl q) (fun _ _ => rfl) ds vs h2⟩
  | tup ds =>
    obtain ⟨vs, z, h1, h2⟩ := h
    simp only [Rep]
    exact ⟨a, vs, rfl, z, .inl ⟨.inr rfl, h1⟩, RepL.mono (fun _ q => .inl q) (fun _ _ => rfl) ds vs h2⟩
  | _ => exact h.elim
theorem Fre.top {d : D} {a : Addr} (h : Fre W F H d a) (m : isMut d = true) : Top W F H d (.ref a) := by
  cases d with
  | lst ds =>
    obtain ⟨vs, z, h1, h2⟩ := h
    exact ⟨a, vs, rfl, z, h1, h2⟩
  | tup _ => cases m
  | _ => exact h.elim
/-- what an operation gives: something that is there for good, or one new object -/
def New (W : Wd) (F : Addr → Prop) (H : Hp) (d : D) (v : V) (H' : Hp) : Prop :=
  (H' = H ∧ Rep W F H d v ∧ isMut d = false) ∨ (∃ a o, v = .ref a ∧ H a = none ∧ H' = upd H a o ∧ Fre W F H' d a)
theorem RepL.laid (f2 : ∀ a, F a → H a ≠ none) {p : Addr} {o : HO} (hp : H p = none) {ds : List D} {vs : List V} (h : RepL W F H ds vs) : RepL W F (upd H p o) ds vs :=
  RepL.mono (fun _ q => q) (fun a q => upd_ne (fun e : a = p => f2 a q (by rw [e]; exact hp))) ds vs h
theorem New.lst (f2 : ∀ a, F a → H a ≠ none) {p : Addr} (hp : H p = none) {ds : List D} {vs : List V} (hz : vs.length ≤ sizeLine) (h : RepL W F H ds vs) : New W F H (.lst ds) (.ref p) (upd H p (.lst vs)) :=
  .inr ⟨p, _, rfl, hp, rfl, vs, hz, upd_same, RepL.laid f2 hp h⟩
theorem New.tup (f2 : ∀ a, F a → H a ≠ none) {p : Addr} (hp : H p = none) {ds : List D} {vs : List V} (hz : vs.length ≤ sizeLine) (h : RepL W F H ds vs) : New W F H (.tup ds) (.ref p) (upd H p (.tup vs)) :=
  .inr ⟨p, _, rfl, hp, rfl, vs, hz, upd_same, RepL.laid f2 hp h⟩
theorem New.now {d : D} {v : V} (h : Rep W F H d v) (m : isMut d = false) : New W F H d v H := .inl ⟨rfl, h, m⟩
end

/-! ### truth -/
theorem tru_of {W : Wd} {F : Addr → Prop} {H : Hp} {d : D} {v : V} {b : Bool} (h : Top W F H d v) (e : truD d = some b) : TruV W.K v H b := by
  cases d with
  | non => cases e; rw [h.non]; rfl
  | bl c => cases e; rw [h.bl]; rfl
  | int i => cases e; rw [h.int]; rfl
  | str s =>
    simp only [truD] at e
    split at e
    · rename_i hz
      cases e
      rw [h.str]
      refine ⟨by rw [← szL_eq]; exact hz, ?_⟩
      cases s with
      | nil => rfl
      | cons c r => show true = _; symm; show ((((r.length + 1 : Nat)) : Int) != 0) = true; simp; omega
    · cases e
  | tup ds =>
    cases e
    obtain ⟨a, vs, rfl, z, h1, h2⟩ := h.tup
    refine .inr (.inl ⟨vs, tup_sq h1, ?_⟩)
    have := h2.length
    cases ds <;> cases vs <;> simp_all
  | lst ds =>
    cases e
    obtain ⟨a, vs, rfl, z, h1, h2⟩ := h.lst
    refine .inl ⟨vs, SqL.of h1, ?_⟩
    have := h2.length
    cases ds <;> cases vs <;> simp_all
  | dic _ => exact (show False from h).elim
  | set _ => exact (show False from h).elim
  | box => cases e
  | fn _ => cases e

/-- several operands -/
def TopL (W : Wd) (F : Addr → Prop) (H : Hp) : List D → List V → Prop
  | [], vs => vs = []
  | d :: ds, vs => ∃ v r, vs = v :: r ∧ Top W F H d v ∧ TopL W F H ds r
theorem TopL.one {W : Wd} {F : Addr → Prop} {H : Hp} {d : D} {vs : List V} (h : TopL W F H [d] vs) : ∃ v, vs = [v] ∧ Top W F H d v := by
  simp only [TopL] at h
  obtain ⟨v, r, rfl, h1, rfl⟩ := h
  exact ⟨v, rfl, h1⟩
theorem TopL.two {W : Wd} {F : Addr → Prop} {H : Hp} {d e : D} {vs : List V} (h : TopL W F H [d, e] vs) : ∃ v u, vs = [v, u] ∧ Top W F H d v ∧ Top W F H e u := by
  simp only [TopL] at h
  obtain ⟨v, r, rfl, h1, u, r', rfl, h2, rfl⟩ := h
  exact ⟨v, u, rfl, h1, h2⟩
theorem TopL.length {W : Wd} {F : Addr → Prop} {H : Hp} : ∀ {ds : List D} {vs : List V}, TopL W F H ds vs → vs.length = ds.length
  | [], vs, h => by
    simp only [TopL] at h
    rw [h]
    rfl
  | d :: ds, vs, h => by
    simp only [TopL] at h
    obtain ⟨v, r, rfl, _, h2⟩ := h
    rw [List.length_cons, List.length_cons, TopL.length h2]
end Ip

/-! IpD: the operations' rules. -/
namespace Ip
open PySem PySem.Spec PyProof.Rows L2

/-- what all readings know of the frozen -/
abbrev Fok (F : Addr → Prop) (H : Hp) : Prop := ∀ a, F a → H a ≠ none

/-! ### t * k for a tuple: once, and not at all -/
theorem tuple_mul1 (l : Addr) (items : Array Value) (n : Nat) (dd : Option Addr) (sl : Array (Option Value)) (x : Int) (u : Tok) (c0 : (decide (x < -(2 ^ 63)) || decide (x ≥ 2 ^ 63)) = false) (c1 : (items.isEmpty || x == 1) = true) :
    Meets (Builtin.«tuple.__mul__» ⟨[.ref l, .int x u], []⟩) (fun _ R s => s.heap.get? l = some { cls := .type "tuple", dict := dd, data := .seq items n, slots := sl } ∧ R (.ok (.ret (Value.ref l))) s) :=
  .of_wp fun prog w A R s h => by
    obtain ⟨hp, g, d, tk, os⟩ := s
    obtain ⟨hl, h⟩ := h
    have f1 := AutoSeq1.idx_int
    wp_walk using wpAny_loadPart' hl
    refine wpAny_ite_false (decide_eq_false (by rw [c0]; exact Bool.false_ne_true)) ?_
    wp_walk using wpAny_loadPart' hl
    exact ⟨_, rfl, h⟩
theorem op_rep1 {X : Cx} : OpR X (binaryOp .Mult) (fun x y H Q => ∃ l k xs, x = .ref l ∧ y = .int k ∧ SqT X.K H l xs ∧ 1 ≤ k ∧ k ≤ 1000 ∧ (xs = [] ∨ k = 1) ∧ Q (.ref l) H) := by
  intro pins s σ H x y v u Q I rx ry h
  obtain ⟨l, k, xs, rfl, rfl, hT, h1, h2, h3, q⟩ := h
  cases rx
  obtain ⟨t, rfl⟩ := ry
  obtain ⟨its, r, ⟨⟨cls, dd, data, sl⟩, ho, hc, n, hd⟩, hs⟩ := I.tuple hT
  simp only at hc hd
  subst hc hd
  have hle : its.length = xs.length := r.length.symm
  have c0 : (decide (k < -(2 ^ 63)) || decide (k ≥ 2 ^ 63)) = false := by
    rw [decide_eq_false (by omega), decide_eq_false (by omega)] <;> rfl
  have c1 : (its.toArray.isEmpty || k == 1) = true := by
    rcases h3 with e | e
    · subst e
      have : its = [] := List.eq_nil_of_length_eq_zero hle
      subst this
      rfl
    · subst e
      simp
  exact wpAny_binaryOp_repeat_ref (T := "tuple") (U := "int") (by decide) ⟨_, ho, rfl⟩ (fun s' => typeIs_int s' k t) noFill_tuple_mul F.fills_int_mul F.slot_int_rmul repeat_tuple F.slot_int_index.lookup
    (call_meets F.slot_int_rmul (typeIs_int s k t) F.entry_int_rmul (F.args_int_rmul_2 _ _) (int_rmul_tuple k t l its.toArray n dd sl)
      ⟨ho, rfl, ⟨_, ho, rfl⟩, call_meets F.slot_tuple_mul ⟨_, ho, rfl⟩ F.entry_tuple_mul (F.args_tuple_mul_2 _ _) (tuple_mul1 l its.toArray n dd sl k t c0 c1) ⟨ho, .ref l, H, I, rfl, q⟩⟩)

/-! ### two-place operations -/
def opOf : Op → Operator
  | .add => .Add | .sub => .Sub | .mul => .Mult | .fdiv => .FloorDiv | .mod => .Mod | .pow => .Pow
section
variable {X : Cx} {W : Wd}
/-- the operation on data -/
def rBin (W : Wd) (o : Op) : R2 := fun x y H Q => ∃ F a b d, Fok F H ∧ Top W F H a x ∧ Top W F H b y ∧ binD o a b = some d ∧ ∀ v H', New W F H d v H' → Q v H'
theorem mulOk_C {i j : Int} (h : mulOk i j = true) : CMul i j := by
  unfold mulOk at h
  simp only [Bool.or_eq_true, Bool.and_eq_true, decide_eq_true_eq] at h
  exact h
theorem add_strs (x y : List Nat) : (⟨x.toArray⟩ : Str) ++ (⟨y.toArray⟩ : Str) = ⟨(x ++ y).toArray⟩ := by
  show (⟨x.toArray ++ y.toArray⟩ : Str) = _
  simp
theorem op_bin (hK : X.K = W.K) (o : Op) : OpR X (binaryOp (opOf o)) (rBin W o) := by
  intro pins s σ H x y v u Q I rx ry h
  obtain ⟨F, a, b, d, f2, ha, hb, e, q⟩ := h
  unfold binD at e
  split at e
  · cases e
    rw [ha.int] at rx; rw [hb.int] at ry
    exact op_add pins s σ H _ _ v u Q I rx ry ⟨_, _, rfl, rfl, q _ _ (.now rfl rfl)⟩
  · split at e
    · rename_i x' y' hz
      cases e
      rw [ha.str] at rx; rw [hb.str] at ry
      refine op_add_str pins s σ H _ _ v u Q I rx ry ⟨_, _, rfl, rfl, ?_, q _ _ (.now ?_ rfl)⟩
      · rw [← szL_eq]; exact hz
      · rw [add_strs]; rfl
    · cases e
  · split at e
    · rename_i xs ys hz
      cases e
      obtain ⟨p, vs, rfl, z1, t1, r1⟩ := ha.tup
      obtain ⟨p', vs', rfl, z2, t2, r2⟩ := hb.tup
      have l1 := r1.length
      have l2 := r2.length
      have hz' : vs.length + vs'.length ≤ sizeLine := by rw [← szL_eq]; omega
      refine op_catA pins s σ H _ _ v u Q I rx ry ⟨p, p', vs, vs', rfl, rfl, hK ▸ tup_sq t1, hK ▸ tup_sq t2, hz', fun e1 => q _ _ (.now ?_ rfl), fun _ e2 => q _ _ (.now ?_ rfl), fun _ _ c hc => q _ _ (.tup f2 hc (by rw [List.length_append]; exact hz') (RepL.append r1 r2))⟩
      · subst e1
        have : xs = [] := List.eq_nil_of_length_eq_zero l1.symm
        subst this
        simp only [Rep]
        exact ⟨p', vs', rfl, z2, t2, r2⟩
      · subst e2
        have : ys = [] := List.eq_nil_of_length_eq_zero l2.symm
        subst this
        rw [List.append_nil]
        simp only [Rep]
        exact ⟨p, vs, rfl, z1, t1, r1⟩
    · cases e
  · split at e
    · rename_i xs ys hz
      cases e
      obtain ⟨p, vs, rfl, z1, t1, r1⟩ := ha.lst
      obtain ⟨p', vs', rfl, z2, t2, r2⟩ := hb.lst
      have l1 := r1.length
      have l2 := r2.length
      have hz' : vs.length + vs'.length ≤ sizeLine := by rw [← szL_eq]; omega
      exact op_cat pins s σ H _ _ v u Q I rx ry ⟨p, p', vs, vs', rfl, rfl, t1, t2, hz', fun c hc => q _ _ (.lst f2 hc (by rw [List.length_append]; exact hz') (RepL.append r1 r2))⟩
    · cases e
  · cases e
    rw [ha.int] at rx; rw [hb.int] at ry
    exact op_sub pins s σ H _ _ v u Q I rx ry ⟨_, _, rfl, rfl, q _ _ (.now rfl rfl)⟩
  · split at e
    · rename_i hm
      cases e
      rw [ha.int] at rx; rw [hb.int] at ry
      exact op_mul pins s σ H _ _ v u Q I rx ry ⟨_, _, rfl, rfl, mulOk_C hm, q _ _ (.now rfl rfl)⟩
    · cases e
  · split at e
    · rename_i xs k hz
      cases e
      obtain ⟨p, vs, rfl, z1, t1, r1⟩ := ha.tup
      rw [hb.int] at ry
      have l1 := r1.length
      by_cases c : vs = [] ∨ k = 1
      · refine op_rep1 pins s σ H _ _ v u Q I rx ry ⟨p, k, vs, rfl, rfl, hK ▸ tup_sq t1, hz.1, hz.2.1, c, q _ _ (.now ?_ rfl)⟩
        have : repL k xs = xs := by
          rcases c with c | c
          · subst c
            have : xs = [] := List.eq_nil_of_length_eq_zero l1.symm
            subst this
            simp [repL]
          · subst c
            simp [repL]
        rw [this]
        simp only [Rep]
        exact ⟨p, vs, rfl, z1, t1, r1⟩
      · refine op_repT pins s σ H _ _ v u Q I rx ry ⟨p, k, vs, rfl, rfl, hK ▸ tup_sq t1, fun z => c (.inl z), ?_, hz.2.1, by omega, fun a ha' => q _ _ (.tup f2 ha' ?_ (RepL.rep r1 k.toNat))⟩
        · have : k ≠ 1 := fun z => c (.inr z)
          omega
        · rw [PyProof.Rows.lm_len_rep_flat, sizeLine_eq]
          have a1 : k.toNat * vs.length ≤ 1000 * 1000 := Nat.mul_le_mul (by omega) (by omega)
          omega
    · cases e
  · split at e
    · rename_i xs k hz
      cases e
      obtain ⟨p, vs, rfl, z1, t1, r1⟩ := ha.lst
      rw [hb.int] at ry
      have l1 := r1.length
      have hz' : vs.length * k.toNat ≤ sizeLine := by rw [← szL_eq, l1]; exact hz.2.2
      exact op_rep pins s σ H _ _ v u Q I rx ry ⟨p, k, vs, rfl, rfl, t1, by omega, by omega, hz', fun a ha' => q _ _ (.lst f2 ha' (by rw [PyProof.Rows.lm_len_rep_flat, Nat.mul_comm]; exact hz') (RepL.rep r1 k.toNat))⟩
    · cases e
  · split at e
    · rename_i hm
      cases e
      rw [ha.int] at rx; rw [hb.int] at ry
      exact op_fdiv pins s σ H _ _ v u Q I rx ry ⟨_, _, rfl, rfl, hm, q _ _ (.now rfl rfl)⟩
    · cases e
  · split at e
    · rename_i hm
      cases e
      rw [ha.int] at rx; rw [hb.int] at ry
      exact op_mod pins s σ H _ _ v u Q I rx ry ⟨_, _, rfl, rfl, hm, q _ _ (.now rfl rfl)⟩
    · cases e
  · cases e
end

/-! ### comparisons -/
def cpOf : Cp → CmpOp
  | .eq => .Eq | .ne => .NotEq | .lt => .Lt | .le => .LtE | .gt => .Gt | .ge => .GtE | .is => .Is | .isNot => .IsNot | .in_ => .In | .notIn => .NotIn
section
variable {X : Cx} {W : Wd}
def rCmp (W : Wd) (o : Cp) : R2 := fun x y H Q => ∃ F a b k, Fok F H ∧ Top W F H a x ∧ Top W F H b y ∧ cmpD o a b = some k ∧ Q (.bl k) H
theorem reads_of {F : Addr → Prop} {H : Hp} {pins : List (Addr × Obj)} {s : Shared} {σ : L2.St} {n : Nat} {d : D} {x : V} {v : Value} (hK : X.K = W.K) (I : Inv X pins σ H s) (h : Top W F H d x) (hp : pl n d = true) (r : RelV x v) : ∃ as, Reads s.heap v d.py as :=
  Dp.reads I d.py x v (hK ▸ Top.dp hp h) r
theorem depth_room {X : Cx} {n : Nat} (hu : X.A.units + 64 < cLine) {d e : D} (hd : pl 60 d = true) : X.A.units + min d.py.depth e.py.depth < cLine := by
  have := (pl_plain 60 d hd).2
  omega
theorem anyEq (x : D) (xs : List D) (hx : pl 60 x = true) (hxs : xs.all (pl 59) = true) : (pys xs).any (fun y => PyData.eqv y x.py) = xs.any fun y => eqD y x := by
  rw [pys_map, List.any_map]
  rw [List.all_eq_true] at hxs
  rw [Bool.eq_iff_iff, List.any_eq_true, List.any_eq_true]
  constructor
  · rintro ⟨y, hy, e⟩
    exact ⟨y, hy, by rw [← eqD_py 60 y x (pl_mono 59 60 y (by omega) (hxs y hy)) hx]; exact e⟩
  · rintro ⟨y, hy, e⟩
    exact ⟨y, hy, by show PyData.eqv y.py x.py = true; rw [eqD_py 60 y x (pl_mono 59 60 y (by omega) (hxs y hy)) hx]; exact e⟩
theorem in_data (hK : X.K = W.K) (hu : X.A.units + 64 < cLine) {F : Addr → Prop} {H : Hp} {pins : List (Addr × Obj)} {s : Shared} {σ : L2.St} {a : D} {xs : List D} {x y : V} {v u : Value} {b : D} (hb : b = .lst xs ∨ b = .tup xs)
    (I : Inv X pins σ H s) (rx : RelV x v) (ry : RelV y u) (ha : Top W F H a x) (hc : Top W F H b y) (h1 : pl 60 a = true) (h2 : xs.all (pl 59) = true) :
    (∀ Q : Value → Shared → Prop, Q (.bool (xs.any fun y => eqD y a)) s → wpAny (model X.prog X.w) X.A (compareOp .In v u) Q X.xe s) ∧
    (∀ Q : Value → Shared → Prop, Q (.bool (!xs.any fun y => eqD y a)) s → wpAny (model X.prog X.w) X.A (compareOp .NotIn v u) Q X.xe s) := by
  obtain ⟨as, r1⟩ := reads_of hK I ha h1 rx
  have hp := (pl_plain 60 a h1).1
  have hxs := pls_plain 59 xs h2
  have hu' : X.A.units + 1 + min (PyData.depthAll (pys xs)) a.py.depth < cLine := by omega
  rcases hb with e | e
  · subst e
    obtain ⟨bs, r2⟩ := reads_of hK I hc (n := 60) (by simpa [pl] using h2) ry
    simp only [D.py] at r2
    refine ⟨fun Q q => PySem.SeqAt.in_list_data r2 r1 hxs.1 hp hu' (by rw [anyEq a xs h1 h2]; exact q), fun Q q => PySem.SeqAt.notIn_list_data r2 r1 hxs.1 hp hu' (by rw [anyEq a xs h1 h2]; exact q)⟩
  · subst e
    obtain ⟨bs, r2⟩ := reads_of hK I hc (n := 60) (by simpa [pl] using h2) ry
    simp only [D.py] at r2
    refine ⟨fun Q q => PySem.SeqAt.in_tuple_data r2 r1 hxs.1 hp hu' (by rw [anyEq a xs h1 h2]; exact q), fun Q q => PySem.SeqAt.notIn_tuple_data r2 r1 hxs.1 hp hu' (by rw [anyEq a xs h1 h2]; exact q)⟩
theorem op_inD (hK : X.K = W.K) (hu : X.A.units + 64 < cLine) {pins : List (Addr × Obj)} {s : Shared} {σ : L2.St} {H : Hp} {x y : V} {v u : Value} (I : Inv X pins σ H s) (rx : RelV x v) (ry : RelV y u) {F : Addr → Prop} {a b : D} {k : Bool} (ha : Top W F H a x) (hb : Top W F H b y) (e : inD a b = some k) :
    (∀ Q : VK, Q (.bl k) H → wpAny (model X.prog X.w) X.A (compareOp .In v u) (EP X pins σ Q) X.xe s) ∧
    (∀ Q : VK, Q (.bl (!k)) H → wpAny (model X.prog X.w) X.A (compareOp .NotIn v u) (EP X pins σ Q) X.xe s) := by
  unfold inD at e
  split at e
  · rename_i xs
    split at e
    · rename_i hp
      rw [Bool.and_eq_true] at hp
      cases e
      obtain ⟨g1, g2⟩ := in_data hK hu (.inl rfl) I rx ry ha hb hp.1 hp.2
      exact ⟨fun Q q => g1 _ ⟨.bl _, H, I, rfl, q⟩, fun Q q => g2 _ ⟨.bl _, H, I, rfl, q⟩⟩
    · cases e
  · rename_i xs
    split at e
    · rename_i hp
      rw [Bool.and_eq_true] at hp
      cases e
      obtain ⟨g1, g2⟩ := in_data hK hu (.inr rfl) I rx ry ha hb hp.1 hp.2
      exact ⟨fun Q q => g1 _ ⟨.bl _, H, I, rfl, q⟩, fun Q q => g2 _ ⟨.bl _, H, I, rfl, q⟩⟩
    · cases e
  · rename_i t
    split at e
    · rename_i c
      cases e
      rw [ha.str] at rx; rw [hb.str] at ry
      exact ⟨fun Q q => op_in_sign pins s σ H _ _ v u Q I rx ry ⟨c, ⟨t.toArray⟩, rfl, rfl, by simpa using q⟩, fun Q q => op_notIn_sign pins s σ H _ _ v u Q I rx ry ⟨c, ⟨t.toArray⟩, rfl, rfl, by simpa using q⟩⟩
    · cases e
  · cases e
mutual
theorem alikeD_symm : ∀ a b : D, alikeD a b = true → alikeD b a = true
  | .lst xs, b, h => by
    cases b with
    | lst ys => simp only [alikeD] at h ⊢; exact alikeDs_symm xs ys h
    | _ => simp [alikeD] at h
  | .tup xs, b, h => by
    cases b with
    | tup ys => simp only [alikeD] at h ⊢; exact alikeDs_symm xs ys h
    | _ => simp [alikeD] at h
  | .non, b, h | .bl _, b, h | .int _, b, h | .str _, b, h | .dic _, b, h | .set _, b, h | .box, b, h | .fn _, b, h => by cases b <;> simp_all [alikeD]
theorem alikeDs_symm : ∀ xs ys : List D, alikeDs xs ys = true → alikeDs ys xs = true
  | [], [], _ => rfl
  | [], _ :: _, _ => by simp [alikeDs]
  | _ :: _, [], _ => by simp [alikeDs]
  | x :: xs, y :: ys, h => by
    simp only [alikeDs, Bool.and_eq_true] at h ⊢
    exact ⟨alikeD_symm x y h.1, alikeDs_symm xs ys h.2⟩
end
theorem isNon_top {F : Addr → Prop} {H : Hp} {a : D} {x : V} (h : Top W F H a x) : decide (x = .non) = isNon a := by
  cases a with
  | non => rw [h.non]; rfl
  | bl b => rw [h.bl]; rfl
  | int i => rw [h.int]; rfl
  | str s => rw [h.str]; rfl
  | tup xs => obtain ⟨a, vs, rfl, _⟩ := h.tup; rfl
  | lst xs => obtain ⟨a, vs, rfl, _⟩ := h.lst; rfl
  | box => rw [show x = .ref W.ba from h]; rfl
  | dic _ => exact (show False from h).elim
  | set _ => exact (show False from h).elim
  | fn _ => exact (show False from h).elim
theorem op_cmp (hK : X.K = W.K) (hu : X.A.units + 64 < cLine) (o : Cp) : OpR X (compareOp (cpOf o)) (rCmp W o) := by
  intro pins s σ H x y v u Q I rx ry h
  obtain ⟨F, a, b, k, f2, ha, hb, e, q⟩ := h
  have fin : ∀ {k'}, some k' = some k → EP X pins σ Q (.bool k') s := fun {k'} z => by cases z; exact ⟨.bl k, H, I, rfl, q⟩
  unfold cmpD at e
  split at e
  · split at e
    · rename_i hp
      rw [Bool.and_eq_true] at hp
      obtain ⟨as, r1⟩ := reads_of hK I ha hp.1 rx
      obtain ⟨bs, r2⟩ := reads_of hK I hb hp.2 ry
      refine PySem.SeqAt.eq_plain r1 r2 (pl_plain 60 a hp.1).1 (pl_plain 60 b hp.2).1 (depth_room (n := 60) hu hp.1) ?_
      rw [eqD_py 60 a b hp.1 hp.2]
      exact fin e
    · cases e
  · split at e
    · rename_i hp
      rw [Bool.and_eq_true] at hp
      obtain ⟨as, r1⟩ := reads_of hK I ha hp.1 rx
      obtain ⟨bs, r2⟩ := reads_of hK I hb hp.2 ry
      refine PySem.SeqAt.ne_plain r1 r2 (pl_plain 60 a hp.1).1 (pl_plain 60 b hp.2).1 (depth_room (n := 60) hu hp.1) ?_
      rw [eqD_py 60 a b hp.1 hp.2]
      exact fin e
    · cases e
  all_goals try
    (split at e
     · rename_i hp
       unfold ordOk at hp
       simp only [Bool.and_eq_true] at hp
       obtain ⟨⟨⟨h1, h2⟩, h3⟩, h4⟩ := hp
       obtain ⟨as, r1⟩ := reads_of hK I ha h3 rx
       obtain ⟨bs, r2⟩ := reads_of hK I hb h4 ry
       have hal := alike_py a b h1
       have hal' : alikeD b a = true := alikeD_symm a b h1
       have hn : a.py ≠ .none := fun z => by cases a <;> simp_all [D.py, isNon, pl]
       first
         | exact PySem.W.lt_data r1 r2 hal hn (depth_room (n := 60) hu h3) (by rw [ltD_py 60 a b h3 h4 h1]; exact fin e)
         | exact PySem.W.gt_data r1 r2 hal hn (depth_room (n := 60) hu h3) (by rw [ltD_py 60 b a h4 h3 hal']; exact fin e)
         | exact PySem.W.le_data r1 r2 hal hn (depth_room (n := 60) hu h3) (by rw [ltD_py 60 b a h4 h3 hal']; exact fin e)
         | exact PySem.W.ge_data r1 r2 hal hn (depth_room (n := 60) hu h3) (by rw [ltD_py 60 a b h3 h4 h1]; exact fin e)
     · cases e)
  · rw [hb.non] at ry
    refine op_isN pins s σ H _ _ v u Q I rx ry ⟨rfl, ?_⟩
    cases e
    rw [isNon_top ha]
    exact q
  · rw [hb.non] at ry
    refine op_notN pins s σ H _ _ v u Q I rx ry ⟨rfl, ?_⟩
    cases e
    rw [isNon_top ha]
    exact q
  · rw [ha.bl] at rx; rw [hb.bl] at ry
    refine op_is_bl pins s σ H _ _ v u Q I rx ry ⟨_, _, rfl, rfl, ?_⟩
    cases e
    rw [← Bool.beq_eq_decide_eq]
    exact q
  · rw [ha.bl] at rx; rw [hb.bl] at ry
    refine op_isnot_bl pins s σ H _ _ v u Q I rx ry ⟨_, _, rfl, rfl, ?_⟩
    cases e
    rw [← Bool.beq_eq_decide_eq]
    exact q
  · exact (op_inD hK hu I rx ry ha hb e).1 Q q
  · cases z : inD a b with
    | none => rw [z] at e; cases e
    | some k' =>
      rw [z] at e
      cases e
      exact (op_inD hK hu I rx ry ha hb z).2 Q q
  · cases e
end

/-! ### places and slices -/
theorem ixP_eq (n : Nat) (i : Int) : ixP n i = ixN n i := rfl
theorem sIx_eq (n d : Nat) (o : Option Int) : sIx n d o = HT.sIx n d o := by cases o <;> rfl
section
variable {X : Cx} {W : Wd}
def rSub (W : Wd) : R2 := fun x y H Q => ∃ F a b d, Fok F H ∧ Top W F H a x ∧ Top W F H b y ∧ subD a b = some d ∧ ∀ v, Rep W F H d v → Q v H
theorem ix_sub (hK : X.K = W.K) : IxR X (rSub W) := by
  intro value slice pins s σ H x y v u Q I rx ry h hs
  obtain ⟨F, a, b, d, f2, ha, hb, e, q⟩ := h
  refine ix_seq value slice pins s σ H x y v u Q I rx ry ?_ hs
  unfold subD at e
  split at e
  · rename_i xs i
    obtain ⟨j, hj, hx⟩ := Option.bind_eq_some_iff.mp e
    obtain ⟨p, vs, rfl, z, t1, r1⟩ := ha.tup
    obtain ⟨w, hw, rw'⟩ := r1.get hx
    refine .inr (.inl ⟨p, vs, i, w, rfl, hb.int, hK ▸ tup_sq t1, ?_, q w rw'⟩)
    unfold atI
    rw [r1.length, ← ixP_eq, hj]
    exact hw
  · rename_i xs i
    obtain ⟨j, hj, hx⟩ := Option.bind_eq_some_iff.mp e
    obtain ⟨p, vs, rfl, z, t1, r1⟩ := ha.lst
    obtain ⟨w, hw, rw'⟩ := r1.get hx
    refine .inl ⟨p, vs, i, w, rfl, hb.int, SqL.of t1, ?_, q w rw'⟩
    unfold atI
    rw [r1.length, ← ixP_eq, hj]
    exact hw
  · rename_i t i
    split at e
    · rename_i hz
      obtain ⟨j, hj, hx⟩ := Option.bind_eq_some_iff.mp e
      obtain ⟨c, hc, ec⟩ := Option.map_eq_some_iff.mp hx
      subst ec
      refine .inr (.inr ⟨⟨t.toArray⟩, i, c, ha.str, hb.int, ?_, ?_, q _ rfl⟩)
      · show t.toArray.size ≤ sizeLine
        rw [← szL_eq, List.size_toArray]
        exact hz
      · unfold atI
        show (ixN t.toArray.toList.length i).bind _ = _
        rw [← ixP_eq, List.toList_toArray, hj]
        exact hc
    · cases e
  · cases e
def rCut (W : Wd) : V → Option Int → Option Int → Hp → VK → Prop := fun x lo hi H Q => ∃ F a d, Fok F H ∧ Top W F H a x ∧ cutD a lo hi = some d ∧ ∀ v H', New W F H d v H' → Q v H'
theorem cutL_eq {F : Addr → Prop} {H : Hp} {ds : List D} {vs : List V} (lo hi : Option Int) (r : RepL W F H ds vs) : RepL W F H (cutL ds lo hi) (cutV vs lo hi) := by
  unfold cutL cutV
  rw [r.length, sIx_eq, sIx_eq]
  exact RepL.take _ (RepL.drop _ r)
theorem sl_cut (hK : X.K = W.K) : SlR X (rCut W) := by
  intro pins s σ H x v vl vu lo hi sl Q I rx hs pl pu h
  obtain ⟨F, a, d, f2, ha, e, q⟩ := h
  unfold cutD at e
  split at e
  · rename_i xs
    cases e
    obtain ⟨p, vs, rfl, z, t1, r1⟩ := ha.tup
    refine sl_tupA pins s σ H _ v vl vu lo hi sl Q I rx hs pl pu ⟨p, vs, rfl, hK ▸ tup_sq t1, fun e1 => q _ _ (.now ?_ rfl), fun _ c hc => q _ _ (.tup f2 hc (Nat.le_trans (cutV_length _ _ _) z) (cutL_eq lo hi r1))⟩
    have : cutL xs lo hi = xs := by
      unfold cutL
      rw [← r1.length, sIx_eq, sIx_eq, e1.1, e1.2, List.drop_zero, Nat.sub_zero, List.take_of_length_le (by rw [r1.length]; exact Nat.le_refl _)]
    rw [this]
    simp only [Rep]
    exact ⟨p, vs, rfl, z, t1, r1⟩
  · rename_i xs
    cases e
    obtain ⟨p, vs, rfl, z, t1, r1⟩ := ha.lst
    exact sl_list pins s σ H _ v vl vu lo hi sl Q I rx hs pl pu ⟨p, vs, rfl, SqL.of t1, fun c hc => q _ _ (.lst f2 hc (Nat.le_trans (cutV_length _ _ _) z) (cutL_eq lo hi r1))⟩
  · rename_i t
    split at e
    · rename_i hz
      cases e
      rw [ha.str] at rx
      refine sl_str pins s σ H _ v vl vu lo hi sl Q I rx hs pl pu ⟨⟨t.toArray⟩, rfl, ?_, q _ _ (.now ?_ rfl)⟩
      · show t.toArray.size ≤ sizeLine
        rw [← szL_eq, List.size_toArray]
        exact hz
      · show V.str _ = V.str _
        unfold cutS cutL
        congr 1
    · cases e
  · cases e
end

/-! ### t[::-1] -/
section
variable {prog : Program} {w : World} {A : Around} {E : Value → Shared → Prop} {s : Shared}
theorem rev_pick (xs : Array Value) : ((List.range xs.size).filterMap fun (m : Nat) => xs[(((xs.size : Nat) : Int) - 1 + (m : Int) * -1).toNat]?).toArray = xs.toList.reverse.toArray := by
  have e : ((List.range xs.size).filterMap fun (m : Nat) => xs[(((xs.size : Nat) : Int) - 1 + (m : Int) * -1).toNat]?) = (List.range xs.size).filterMap fun m => xs[xs.size - 1 - m]? := by
    have gen : ∀ l : List Nat, (∀ m ∈ l, m < xs.size) → (l.filterMap fun (m : Nat) => xs[(((xs.size : Nat) : Int) - 1 + (m : Int) * -1).toNat]?) = l.filterMap fun m => xs[xs.size - 1 - m]? := by
      intro l
      induction l with
      | nil => intro _; rfl
      | cons m l ih =>
        intro hm
        have h1 := hm m List.mem_cons_self
        have : (((xs.size : Nat) : Int) - 1 + (m : Int) * -1).toNat = xs.size - 1 - m := by omega
        rw [List.filterMap_cons, List.filterMap_cons, ih fun z hz => hm z (List.mem_cons_of_mem _ hz), this]
    exact gen _ fun m hm => List.mem_range.mp hm
  rw [e]
  have e2 : ((List.range xs.size).filterMap fun m => xs[xs.size - 1 - m]?) = ((List.range xs.size).map (fun k => xs.size - 1 - k)).filterMap (xs[·]?) := by
    rw [List.filterMap_map]
    rfl
  rw [e2, PySem.W.krv_range, List.filterMap_reverse, PySem.W.krv_all]
theorem sliceApplied_rev {sl : Addr} {vk : Value} {n : Nat} {Q : Int × Int × Nat → Shared → Prop} (hs : s.heap.IsSliceOf sl .none .none vk) (pk : IsPart vk (some (-1)))
    (h : Q (((n : Nat) : Int) - 1, -1, n) s) : wpAny (model prog w) A (Builtin.Slice.sliceApplied (.ref sl) (pure (n : Int))) Q E s := by
  obtain ⟨os, hos, hcs, hds⟩ := id hs
  unfold Builtin.Slice.sliceApplied Builtin.Slice.sliceFields
  refine wpAny_bind (wpAny_bind (wpAny_field hos hds (x := .none) rfl (wpAny_bind (wpAny_field hos hds (x := .none) rfl (wpAny_bind (wpAny_field hos hds (x := vk) rfl (wpAny_pure ?_)))))))
  refine wpAny_bind (HT.slicePart_ pk ?_)
  show wpAny _ _ (if ((-1 : Int) == 0) = true then _ else _) _ _ s
  rw [if_neg (by decide)]
  refine wpAny_bind (slicePart_none (wpAny_bind (slicePart_none (wpAny_bind (wpAny_pure ?_)))))
  show wpAny _ _ (match Builtin.Slice.sliceAdjust none none (-1) (n : Int) with | (lo, hi) => pure (lo, (-1 : Int), Builtin.Slice.slicePlaces lo hi (-1))) _ _ s
  have e1 : Builtin.Slice.sliceAdjust none none (-1) (n : Int) = ((n : Int) - 1, -1) := by
    unfold Builtin.Slice.sliceAdjust
    simp
  rw [e1]
  have e2 : Builtin.Slice.slicePlaces ((n : Int) - 1) (-1) (-1) = n := by
    unfold Builtin.Slice.slicePlaces
    have h1 : ¬ ((-1 : Int) > 0) := by omega
    simp only [h1, if_false]
    split
    · have : ((n : Int) - 1 - -1 - 1) / -(-1) = (n : Int) - 1 := by simp
      rw [this]
      omega
    · omega
  show wpAny _ _ (pure ((n : Int) - 1, (-1 : Int), Builtin.Slice.slicePlaces ((n : Int) - 1) (-1) (-1))) _ _ s
  rw [e2]
  exact wpAny_pure h
theorem getItem_tuple_rev {t sl : Addr} {items : Array Value} {vk : Value} {Q : Value → Shared → Prop} (ht : IsTup s.heap t items) (hs : s.heap.IsSliceOf sl .none .none vk) (pk : IsPart vk (some (-1)))
    (h : Q (.ref s.heap.objs.size) { s with heap := s.heap.push { cls := .type "tuple", data := .seq items.toList.reverse.toArray } }) (hsz : items.size ≤ sizeLine) : wpAny (model prog w) A (getItem (.ref t) (.ref sl)) Q E s := by
  have htake : sizeOk (.seq items.toList.reverse.toArray) := by
    show items.toList.reverse.toArray.size ≤ sizeLine
    rw [List.size_toArray, List.length_reverse, Array.length_toList]
    exact hsz
  obtain ⟨os, hos, hcs, hds⟩ := id hs
  have hTs : s.TypeIs (.ref sl) "slice" := ⟨os, hos, hcs⟩
  unfold getItem
  try with_reducible refine wpAny_holding ?_
  first | refine wpAny_bind (wpAny_pure ?_) | skip
  refine wpAny_bind (wpAny_sequenceKey ht.typeIs (by decide) ?_)
  refine wpAny_bind (wpAny_callSpecial?_slot (name := Str.ofString "__getitem__") ht.typeIs PyProof.Rows.slot_tuple_getitem
    (wpAny_call_entry PyProof.Rows.slot_tuple_getitem ht.typeIs entry_tuple_getitem ?_ (args_tuple_getitem _ _)))
  show wpAny _ _ (Builtin.Tuple.tupleItemsOf (.ref t) >>= _) _ _ s
  refine wpAny_bind (tupleItemsOf_ ht ?_)
  refine wpAny_bind (wpAny_typeOf hTs ?_)
  rw [if_pos (by decide)]
  refine wpAny_bind (sliceApplied_rev hs pk ?_)
  have hno : ¬ ((((items.size : Nat) : Int) - 1 == 0 && (-1 : Int) == 1 && items.size == items.size) = true) := by
    simp
  show wpAny _ _ (if (((items.size : Nat) : Int) - 1 == 0 && (-1 : Int) == 1 && items.size == items.size) = true then _ else _) _ _ s
  rw [if_neg hno, rev_pick]
  first
    | exact wpAny_bind (m := Builtin.Tuple.tupleExact _) (wpAny_newObj_type (wpAny_pure ⟨_, rfl, wpAny_pure h⟩) htake)
    | exact wpAny_bind (m := Builtin.Tuple.tupleExact _) (wpAny_newObj_type (wpAny_bind (wpAny_pure (wpAny_pure ⟨_, rfl, wpAny_pure h⟩))) htake)
    | exact wpAny_bind (wpAny_bind (m := Builtin.Tuple.tupleExact _) (wpAny_newObj_type (wpAny_pure (wpAny_pure ⟨_, rfl, wpAny_pure h⟩)) htake))
    | exact wpAny_bind (wpAny_bind (m := Builtin.Tuple.tupleExact _) (wpAny_newObj_type (wpAny_pure ⟨_, rfl, wpAny_pure h⟩) htake))
end
section
variable {X : Cx} {W : Wd}
def tRev (W : Wd) (te : TE) : TE := fun σ H Q => te σ H fun x H1 => ∃ F a d, Fok F H1 ∧ Top W F H1 a x ∧ isStr a = false ∧ revD a = some d ∧ ∀ v H', New W F H1 d v H' → Q v H'
theorem pe_rev (hK : X.K = W.K) {e : Expr} {te : TE} {k : Nat} {p1 p2 p3 pos : Pos} (he : PE X e te) : PE X (.Subscript e (.Slice none none (some (.UnaryOp .USub (.Constant (.int 1) k p1) p2)) p3) pos) (tRev W te) := by
  refine ⟨fun pins s σ H Q I h => ?_⟩
  refine Subscript_ (thn (he.run pins s σ H _ I h) fun v s1 ⟨x, H1, I1, r1, q1⟩ => ?_)
  obtain ⟨F, a, d, f2, ha, hstr, er, q⟩ := q1
  have hst : PO X (some (.UnaryOp .USub (.Constant (.int 1) k p1) p2)) (tPart (tUn (rU fun i => .int (-i)) (tC (.int 1)))) := po_some (pe_un un_neg pe_int)
  refine wpAny_Slice (thn (po_none.run pins s1 σ H1 (fun o H2 => o = none ∧ H2 = H1) I1 ⟨rfl, rfl⟩) fun vl s2 ⟨l, H2, I2, pl, el, e2⟩ => ?_)
  subst el e2
  refine thn (po_none.run pins s2 σ H2 (fun o H3 => o = none ∧ H3 = H2) I2 ⟨rfl, rfl⟩) fun vu s3 ⟨u, H3, I3, pu, eu, e3⟩ => ?_
  subst eu e3
  refine thn (hst.run pins s3 σ H3 (fun o H4 => o = some (-1) ∧ H4 = H3) I3 ⟨1, rfl, -1, rfl, rfl, rfl⟩) fun vs s4 ⟨o, H4, I4, ps, eo, e4⟩ => ?_
  subst eo e4
  have I5 : Inv X pins σ H4 { s4 with heap := s4.heap.push { cls := .type "slice", data := .fields #[vl, vu, vs] } } := I4.kept (t' := s4.toks) fun b ob q => Heap.get?_push_of_some _ q
  show wpAny (model X.prog X.w) X.A (subscriptTail e (.Slice none none (some (.UnaryOp .USub (.Constant (.int 1) k p1) p2)) p3) v (.ref s4.heap.objs.size)) (EP X pins σ Q) X.xe { s4 with heap := s4.heap.push { cls := .type "slice", data := .fields #[vl, vu, vs] } }
  unfold revD at er
  split at er
  · rename_i xs
    cases er
    obtain ⟨p, ws, rfl, z, t1, rr⟩ := ha.tup
    cases r1
    obtain ⟨its, r, ht, hz⟩ := I5.tuple (hK ▸ tup_sq t1)
    have hlen := r.length
    cases pl
    cases pu
    refine tail_any (ops := [.ref p, .ref s4.heap.objs.size]) ht.typeIs (PyProof.Rows.slot_tuple_getitem.lookup) ?_ (by with_unfolding_all rfl)
    refine getItem_tuple_rev ht (Heap.IsSliceOf.new _ .none .none vs) ps ?_ (by rw [List.size_toArray]; omega)
    refine ⟨.ref _, _, I5.laid (t' := s4.toks) (o := .tup ws.reverse) (fun b ob q => Heap.get?_push_of_some _ q) (Nat.le_refl _) ?_, rfl, q _ _ (.tup f2 (I5.hok.fresh (Nat.le_refl _)) (by rw [List.length_reverse]; exact hz) (RepL.reverse rr))⟩
    exact ⟨by rw [List.length_reverse]; exact hz, _, r.reverse, by rw [List.toList_toArray]; exact IsTup.new _ _⟩
  · rename_i xs
    cases er
    obtain ⟨p, ws, rfl, z, t1, rr⟩ := ha.lst
    cases r1
    obtain ⟨its, r, ht, hz⟩ := I5.list (SqL.of t1)
    have hlen := r.length
    refine tail_any (ops := [.ref p, .ref s4.heap.objs.size]) ht.isList.typeIs (PySem.slot_list_getitem.lookup) ?_ (by with_unfolding_all rfl)
    refine wpAny_getItem_list_slice ht.isList (Heap.IsSliceOf.new _ vl vu vs) pl pu ps (by decide) ?_ (by rw [List.size_toArray]; omega)
    rw [PySem.W.krv_pick]
    refine ⟨.ref _, _, I5.laid (t' := s4.toks) (o := .lst ws.reverse) (fun b ob q => Heap.get?_push_of_some _ q) (Nat.le_refl _) ?_, rfl, q _ _ (.lst f2 (I5.hok.fresh (Nat.le_refl _)) (by rw [List.length_reverse]; exact hz) (RepL.reverse rr))⟩
    exact ⟨by rw [List.length_reverse]; exact hz, _, 0, r.reverse, Heap.get?_push_size _ rfl⟩
  · cases hstr
  · cases er
end

/-! ### sorted(x) of anything that is collected -/
mutual
theorem reads_lt {h : Heap} : ∀ (d : PyData) (v : Value) (as : List Addr), Reads h v d as → ∀ x ∈ as, x < h.objs.size
  | .none, _, _, r => by cases r; simp
  | .bool _, _, _, r => by cases r; simp
  | .int _, _, _, r => by cases r; simp
  | .str _, _, _, r => by cases r; simp
  | .list xs, _, _, r => by
    cases r with
    | list h1 h2 h3 h4 =>
      intro x hx
      rcases List.mem_cons.mp hx with rfl | hx
      · exact Heap.lt_size h1
      · exact readsAll_lt xs _ _ h4 x hx
  | .tuple xs, _, _, r => by
    cases r with
    | tuple h1 h2 h3 h4 => exact readsAll_lt xs _ _ h4
  | .dict kvs, _, _, r => by
    cases r with
    | dict h1 h2 h3 h4 h5 =>
      intro x hx
      have h4' : ∀ x ∈ _, x < h.objs.size := readsKs_lt kvs _ _ h4
      have h5' : ∀ x ∈ _, x < h.objs.size := readsVs_lt kvs _ _ h5
      rcases List.mem_cons.mp hx with rfl | hx
      · exact Heap.lt_size h1
      · rcases List.mem_append.mp hx with hx | hx
        · exact h4' x hx
        · exact h5' x hx
theorem readsAll_lt {h : Heap} : ∀ (ds : List PyData) (vs : List Value) (as : List Addr), ReadsAll h vs ds as → ∀ x ∈ as, x < h.objs.size
  | [], _, _, r => by cases r; simp
  | d :: ds, _, _, r => by
    cases r with
    | cons h1 h2 =>
      intro x hx
      rcases List.mem_append.mp hx with hx | hx
      · exact reads_lt d _ _ h1 x hx
      · exact readsAll_lt ds _ _ h2 x hx
theorem readsKs_lt {h : Heap} : ∀ (kvs : List (PyData × PyData)) (vs : List Value) (as : List Addr), ReadsAll h vs (kvs.map (·.1)) as → ∀ x ∈ as, x < h.objs.size
  | [], _, _, r => by
    rw [List.map_nil] at r
    cases r; simp
  | (k, e) :: kvs, _, _, r => by
    rw [List.map_cons] at r
    cases r with
    | cons h1 h2 =>
      intro x hx
      rcases List.mem_append.mp hx with hx | hx
      · exact reads_lt k _ _ h1 x hx
      · exact readsKs_lt kvs _ _ h2 x hx
theorem readsVs_lt {h : Heap} : ∀ (kvs : List (PyData × PyData)) (vs : List Value) (as : List Addr), ReadsAll h vs (kvs.map (·.2)) as → ∀ x ∈ as, x < h.objs.size
  | [], _, _, r => by
    rw [List.map_nil] at r
    cases r; simp
  | (k, e) :: kvs, _, _, r => by
    rw [List.map_cons] at r
    cases r with
    | cons h1 h2 =>
      intro x hx
      rcases List.mem_append.mp hx with hx | hx
      · exact reads_lt e _ _ h1 x hx
      · exact readsVs_lt kvs _ _ h2 x hx
end
open PySem.W in
/-- one thing alone is in order -/
theorem sorts_one {prog : Program} {w : World} {A : Around} {s : Shared} {vs : List Value} {ds : List PyData} (e : EachIs (fun v d => ∃ as, Reads s.heap v d as) vs ds) (hal : AllAlike ds) (h1 : vs.length ≤ 1) (hn : ∀ d, d ∈ ds → d ≠ .none) (hu : ∀ d, d ∈ ds → A.units + d.depth < cLine) : SortsAt prog w A s (dataKind s.heap ds) vs := by
  refine ⟨fun v hv => ?_, general', ?_, fun h2 => absurd h2 (by omega)⟩
  · obtain ⟨d, hd, as, r⟩ := e.left v hv
    exact ⟨_, dataKind_some hal hd r⟩
  · intro E x y a b Q ha hb hq
    obtain ⟨d, as, hd, ra, rfl⟩ := dataKind_inv ha
    obtain ⟨d', as', hd', rb, rfl⟩ := dataKind_inv hb
    exact oneLt_alike (f := false) (fun h => nomatch h) ra rb (hal d hd d' hd') (hn d hd) (Nat.lt_of_le_of_lt (Nat.add_le_add_left (Nat.min_le_left _ _) _) (hu d hd)) hq
open PySem.W in
theorem list_sort_data1 {β : Type} {prog : Program} {w : World} {A : Around} {E : Value → Shared → Prop} {s : Shared} {vs : List Value} {bs : List β} {enc : β → PyData} {R : Value → β → Prop} {a : Addr} {n : Nat} {Q : Value → Shared → Prop} (ho : s.heap.get? a = some (seqObj "list" vs.toArray n)) (e : EachIs R vs bs) (er : EachIs (fun v b => ∃ as, Reads s.heap v (enc b) as ∧ a ∉ as) vs bs) (hal : AllAlike (bs.map enc)) (hk : Sortable (bs.map enc) ∨ (vs.length ≤ 1 ∧ ∀ d, d ∈ bs.map enc → d ≠ .none)) (hL : bs.length ≤ sizeLine)
    (hu : ∀ b, b ∈ bs → A.units + 1 + (enc b).depth < cLine) (h : ∀ out, out.length = bs.length → EachIs R out (bs.mergeSort (dataLe false enc)) → Q .none { s with heap := sortedHeap s.heap a vs (List.toArray out) }) :
    wpAny (model prog w) A (call (.builtin "list.sort") [.ref a]) Q E s := by
  have er' : EachIs (fun v b => ∃ as, Reads (sortingHeap s.heap a vs) v (enc b) as) vs bs := each_keepBut (h' := sortingHeap s.heap a vs) (fun _ _ hb q => sortingHeap_old hb q) (fun o q => by rw [ho] at q; rw [← Option.some.inj q]) hal er
  refine wpAny_call_entry slot_list_sort ⟨_, ho, rfl⟩ entry_list_sort (list_sort_vals (κ := dataKind (sortingHeap s.heap a vs) (bs.map enc)) ho (by
    rcases hk with hk | ⟨k1, k2⟩
    · exact SortsAt.data (s := { s with heap := sortingHeap s.heap a vs }) (each_map (R := fun v d => ∃ as, Reads (sortingHeap s.heap a vs) v d as) enc er') hal hk (bound_map hu)
    · exact sorts_one (s := { s with heap := sortingHeap s.heap a vs }) (each_map (R := fun v d => ∃ as, Reads (sortingHeap s.heap a vs) v d as) enc er') hal k1 k2 (bound_map hu)) (by rw [e.length]; exact hL) ⟨.none, rfl, ?_⟩) (args_list_sort _)
  exact h _ (by rw [sortVals_length false rfl]; exact e.length) (sortVals_data false e er' hal)
open PySem.W in
theorem sorted_coll {β : Type} {prog : Program} {w : World} {A : Around} {E : Value → Shared → Prop} {s : Shared} {x : Value} {vs : List Value} {bs : List β} {enc : β → PyData} {R : Value → β → Prop} {Q : Value → Shared → Prop}
    (hc : ∀ (Q' : List Value → Shared → Prop) (E' : Value → Shared → Prop), (∀ h' tk, (∀ b o, s.heap.get? b = some o → h'.get? b = some o) → Q' vs { s with heap := h', toks := tk }) → wpAny (model prog w) A.in1 (collect x) Q' E' s)
    (e : EachIs R vs bs) (er : EachIs (fun v b => ∃ as, Reads s.heap v (enc b) as) vs bs) (hal : AllAlike (bs.map enc)) (hk : Sortable (bs.map enc) ∨ (vs.length ≤ 1 ∧ ∀ d, d ∈ bs.map enc → d ≠ .none)) (hL : bs.length ≤ sizeLine) (hu : ∀ b, b ∈ bs → A.units + 2 + (enc b).depth < cLine)
    (h : ∀ (h1 h' : Heap) (tk : Nat) (out : List Value) (c : Nat), (∀ b o, s.heap.get? b = some o → h1.get? b = some o) → (∀ b o, h1.get? b = some o → h'.get? b = some o) → h'.get? h1.objs.size = some (seqObj "list" (List.toArray out) c) → out.length = bs.length → EachIs R out (bs.mergeSort (dataLe false enc)) → Q (.ref h1.objs.size) { s with heap := h', toks := tk }) :
    wpAny (model prog w) A (call (.builtin "sorted") [x]) Q E s := by
  refine call_function_entry_kw kind_sorted plain_sorted entry_sorted (args_sorted1 _) ?_
  unfold Builtin.«sorted»
  refine wpAny_bind (m := checkCount "sorted" 1 1 _) (wpAny_pure ?_)
  refine wpAny_bind (hc _ _ fun h1 tk k1 => ?_)
  have hvl : vs.length = bs.length := e.length
  refine wpAny_bind (wpAny_newList ?_ (by rw [hvl]; exact hL))
  have k2 : ∀ b o, h1.get? b = some o → (h1.push { cls := .type "list", data := .seq vs.toArray }).get? b = some o := fun b o q => Heap.get?_push_of_some _ q
  have hob : (h1.push { cls := .type "list", data := .seq vs.toArray }).get? h1.objs.size = some (seqObj "list" vs.toArray 0) := Heap.get?_push_size _ rfl
  refine wpAny_bind (wpAny_holding ?_)
  show wpAny (model prog w) A.in1 (call (.builtin "list.sort") [.ref h1.objs.size]) _ _ { s with heap := h1.push { cls := .type "list", data := .seq vs.toArray }, toks := tk }
  have er2 : EachIs (fun v b => ∃ as, Reads (h1.push { cls := .type "list", data := .seq vs.toArray }) v (enc b) as ∧ h1.objs.size ∉ as) vs bs := er.mono fun v b ⟨as, r⟩ => ⟨as, PyProof.Rows.Reads.keeps k2 (PyProof.Rows.Reads.keeps k1 r), fun hm => by
    have := reads_lt _ _ _ (PyProof.Rows.Reads.keeps k1 r) _ hm
    exact absurd this (Nat.lt_irrefl _)⟩
  refine list_sort_data1 (s := { s with heap := h1.push { cls := .type "list", data := .seq vs.toArray }, toks := tk }) hob e er2 hal hk hL (fun b hb => by have := hu b hb; show A.units + 1 + 1 + _ < cLine; omega) fun out hout ho => ?_
  refine wpAny_pure ⟨_, rfl, ?_⟩
  obtain ⟨c, hc'⟩ := PyProof.Rows.sortedHeap_at (vs := vs) (out := out.toArray) hob
  refine h h1 _ _ out c k1 (fun b o q => ?_) hc' hout ho
  have hb : b ≠ h1.objs.size := Nat.ne_of_lt (Heap.lt_size q)
  rw [PyProof.Rows.sortedHeap_old hb (Heap.lt_size (k2 b o q))]
  exact k2 b o q

/-! ### builtins -/
section
variable {X : Cx} {W : Wd}
theorem bls_of {F : Addr → Prop} {H : Hp} : ∀ {ds : List D} {vs : List V} {bs : List Bool}, RepL W F H ds vs → blsOf ds = some bs → vs = bs.map V.bl
  | [], _, _, h, e => by
    simp only [RepL] at h
    cases e
    exact h
  | d :: ds, _, _, h, e => by
    simp only [RepL] at h
    obtain ⟨v, r, rfl, h1, h2⟩ := h
    cases d <;> simp only [blsOf, reduceCtorEq] at e
    obtain ⟨r', e', rfl⟩ := Option.map_eq_some_iff.mp e
    rw [bls_of h2 e', show v = _ from h1]
    rfl
theorem ints_of {F : Addr → Prop} {H : Hp} : ∀ {ds : List D} {vs : List V} {ns : List Int}, RepL W F H ds vs → intsOf ds = some ns → vs = ns.map V.int ∧ ds = ns.map D.int
  | [], _, _, h, e => by
    simp only [RepL] at h
    cases e
    exact ⟨h, rfl⟩
  | d :: ds, _, _, h, e => by
    simp only [RepL] at h
    obtain ⟨v, r, rfl, h1, h2⟩ := h
    cases d <;> simp only [intsOf, reduceCtorEq] at e
    obtain ⟨r', e', rfl⟩ := Option.map_eq_some_iff.mp e
    obtain ⟨a, b⟩ := ints_of h2 e'
    rw [a, b, show v = _ from h1]
    exact ⟨rfl, rfl⟩
/-- a sequence is read: its values -/
theorem seq_of {F : Addr → Prop} {H : Hp} {d : D} {ds : List D} {v : V} (h : Top W F H d v) (e : seqD d = some ds) : ∃ a vs, v = .ref a ∧ vs.length ≤ sizeLine ∧ ((SqL W.K H a vs ∧ d = .lst ds) ∨ (SqT W.K H a vs ∧ d = .tup ds)) ∧ RepL W F H ds vs := by
  unfold seqD at e
  split at e
  · cases e
    obtain ⟨a, vs, rfl, z, t1, r1⟩ := h.tup
    exact ⟨a, vs, rfl, z, .inr ⟨tup_sq t1, rfl⟩, r1⟩
  · cases e
    obtain ⟨a, vs, rfl, z, t1, r1⟩ := h.lst
    exact ⟨a, vs, rfl, z, .inl ⟨SqL.of t1, rfl⟩, r1⟩
  · cases e
theorem each_of {F : Addr → Prop} {H : Hp} : ∀ {ds : List D} {vs : List V} {us : List Value}, RepL W F H ds vs → Vals vs us → PySem.W.EachIs (fun u d => ∃ v, RelV v u ∧ Rep W F H d v) us ds
  | [], _, _, h, r => by
    simp only [RepL] at h
    subst h
    cases r
    exact .nil
  | d :: ds, _, _, h, r => by
    simp only [RepL] at h
    obtain ⟨v, r', rfl, h1, h2⟩ := h
    cases r with
    | cons q1 q2 => exact .cons ⟨v, q1, h1⟩ (each_of h2 q2)
theorem of_each {F : Addr → Prop} {H : Hp} : ∀ {ds : List D} {us : List Value}, PySem.W.EachIs (fun u d => ∃ v, RelV v u ∧ Rep W F H d v) us ds → ∃ vs, Vals vs us ∧ RepL W F H ds vs
  | _, _, .nil => ⟨[], .nil, rfl⟩
  | _, _, .cons ⟨v, q1, q2⟩ t => by
    obtain ⟨vs, a, b⟩ := of_each t
    exact ⟨v :: vs, .cons q1 a, v, vs, rfl, q2, b⟩
/-- the arguments' reading -/
def rBi (W : Wd) (b : Bi) : List V → Hp → VK → Prop := fun xs H Q => ∃ F ds d, Fok F H ∧ TopL W F H ds xs ∧ biD b ds = some d ∧ ∀ v H', New W F H d v H' → Q v H'
def biVal : Bi → Value
  | .len => .builtin "len" | .int => .type "int" | .str => .type "str" | .all => .builtin "all" | .any => .builtin "any" | .list => .type "list" | .tuple => .type "tuple" | .sorted => .builtin "sorted"
  | .sum => .builtin "sum" | .max => .builtin "max" | .min => .builtin "min"
def biNm : Bi → String
  | .len => "len" | .int => "int" | .str => "str" | .all => "all" | .any => "any" | .list => "list" | .tuple => "tuple" | .sorted => "sorted" | .sum => "sum" | .max => "max" | .min => "min"
theorem alikeAll_ints (ns : List Int) : PySem.W.AlikeAll (ns.map PyData.int) := by
  refine ⟨fun d hd d' hd' => ?_, fun d hd => ?_⟩
  · obtain ⟨i, _, rfl⟩ := List.mem_map.mp hd
    obtain ⟨j, _, rfl⟩ := List.mem_map.mp hd'
    rfl
  · obtain ⟨i, _, rfl⟩ := List.mem_map.mp hd
    exact fun z => by cases z
theorem pys_ints (ns : List Int) : pys (ns.map D.int) = ns.map PyData.int := by
  rw [pys_map, List.map_map]
  rfl
theorem cr_sorted_data (hK : X.K = W.K) (hu : X.A.units + 64 < cLine) {pins : List (Addr × Obj)} {s : Shared} {σ : L2.St} {H : Hp} {Q : VK} {x : V} {u : Value} {F : Addr → Prop} {d : D} {xs : List D} (I : Inv X pins σ H s) (r : RelV x u) (f2 : Fok F H) (h : Top W F H d x) (hd : seqD d = some xs) (hs : sortable xs = true)
    (q : ∀ v H', New W F H (.lst (sortD xs)) v H' → Q v H') : wpAny (model X.prog X.w) X.A (call (.builtin "sorted") [u]) (EP X pins σ Q) X.xe s := by
  obtain ⟨a, vs, rfl, z, hq, rl⟩ := seq_of h hd
  cases r
  have hs0 := hs
  unfold sortable at hs
  simp only [Bool.and_eq_true, List.all_eq_true] at hs
  obtain ⟨⟨h1, h2⟩, h3⟩ := hs
  have key : ∃ (us : List Value) (o : Obj) (n : Nat) (T : String), Vals vs us ∧ (T = "list" ∨ T = "tuple") ∧ s.heap.get? a = some o ∧ o.cls = .type T ∧ o.data = .seq us.toArray n := by
    rcases hq with ⟨hq, _⟩ | ⟨hq, _⟩
    · obtain ⟨its, rv, ⟨o, n, ho, hc, _, hd⟩, _⟩ := I.list (hK ▸ hq)
      exact ⟨its, o, n, "list", rv, .inl rfl, ho, hc, hd⟩
    · obtain ⟨its, rv, ⟨o, ho, hc, n, hd⟩, _⟩ := I.tuple (hK ▸ hq)
      exact ⟨its, o, n, "tuple", rv, .inr rfl, ho, hc, hd⟩
  obtain ⟨us, o, n, T, rv, hT, ho, hc, hd'⟩ := key
  have hlen := rv.length
  have hll := rl.length
  have er : PySem.W.EachIs (fun v b => ∃ as, Reads s.heap v (D.py b) as) us xs := by
    have e := each_of rl rv
    have gen : ∀ {us : List Value} {ds : List D}, PySem.W.EachIs (fun u d => ∃ v, RelV v u ∧ Rep W F H d v) us ds → (∀ d ∈ ds, pl 59 d = true) → PySem.W.EachIs (fun v b => ∃ as, Reads s.heap v (D.py b) as) us ds := by
      intro us ds e
      induction e with
      | nil => intro _; exact .nil
      | cons hh t ih =>
        intro hp
        obtain ⟨v, q1, q2⟩ := hh
        exact .cons (reads_of hK I q2.top (hp _ List.mem_cons_self) q1) (ih fun d hd => hp d (List.mem_cons_of_mem _ hd))
    exact gen e h2
  refine sorted_coll (R := fun u d => ∃ v, RelV v u ∧ Rep W F H d v) (enc := D.py) (vs := us) (bs := xs) (fun Q' E' hq' => ?_) (each_of rl rv) er ?_ ?_ (by rw [← hll]; exact z) ?_ fun h1' h' tk out c k1 k2 hob hout ho' => ?_
  · refine wpAny_collect_seq a hT ho hc hd' (fun h' k => ?_) (by rw [List.size_toArray, ← hlen]; exact z)
    have := hq' h' s.toks k
    simpa using this
  · intro d hd e he
    obtain ⟨x, hx, rfl⟩ := List.mem_map.mp hd
    obtain ⟨y, hy, rfl⟩ := List.mem_map.mp he
    exact alike_py x y (h1 x hx y hy)
  · rw [Bool.or_eq_true, Bool.or_eq_true, List.all_eq_true, List.all_eq_true, Bool.and_eq_true, List.all_eq_true] at h3
    rcases h3 with (h3 | h3) | h3
    · refine .inl (.inl fun d hd => ?_)
      obtain ⟨x, hx, rfl⟩ := List.mem_map.mp hd
      have := h3 x hx
      cases x with
      | tup ys =>
        cases ys with
        | nil => cases this
        | cons y ys => exact ⟨_, _, rfl⟩
      | _ => cases this
    · refine .inl (.inr fun d hd => ?_)
      obtain ⟨x, hx, rfl⟩ := List.mem_map.mp hd
      have := h3 x hx
      cases x <;> simp_all [D.py, isAtom]
    · have hn := of_decide_eq_true h3.1
      refine .inr ⟨by omega, fun d hd => ?_⟩
      obtain ⟨x, hx, rfl⟩ := List.mem_map.mp hd
      have h4 := h3.2 x hx
      have h5 := h2 x hx
      cases x <;> first | (simp [pl] at h5; done) | (simp [isNon] at h4; done) | (intro z; cases z; done)
  · intro b hb
    have := (pl_plain 59 b (h2 b hb)).2
    omega
  · rw [← sortD_merge xs hs0] at ho'
    obtain ⟨ws, w1, w2⟩ := of_each ho'
    have I1 : Inv X pins σ H { s with heap := h1', toks := tk } := I.kept k1
    have hfr : H h1'.objs.size = none := I1.hok.fresh (Nat.le_refl _)
    have hwl : ws.length ≤ sizeLine := by rw [w2.length, sortD, sortB_len, ← hll]; exact z
    have I2 : Inv X pins σ (upd H h1'.objs.size (.lst ws)) { s with heap := h', toks := tk } := I1.laid (t' := tk) k2 (Nat.le_refl _) ⟨hwl, out, c, w1, hob⟩
    exact ⟨.ref _, _, I2, rfl, q _ _ (.lst f2 hfr hwl w2)⟩
theorem cr_mm (hK : X.K = W.K) (hc : X.calm = true) (hu : X.A.units + 64 < cLine) {pins : List (Addr × Obj)} {s : Shared} {σ : L2.St} {H : Hp} {x : V} {us : List Value} {F : Addr → Prop} {d : D} {xs : List D} {n : Int} {ns : List Int} (I : Inv X pins σ H s) (r : Vals [x] us) (f2 : Fok F H) (h : Top W F H d x)
    (hd : seqD d = some xs) (eb : intsOf xs = some (n :: ns)) : (∀ Q : VK, Q (.int (ns.foldl max n)) H → wpAny (model X.prog X.w) X.A (call (.builtin "max") us) (EP X pins σ Q) X.xe s) ∧ (∀ Q : VK, Q (.int (ns.foldl min n)) H → wpAny (model X.prog X.w) X.A (call (.builtin "min") us) (EP X pins σ Q) X.xe s) := by
  obtain ⟨u, rfl, ru⟩ := vals1 r
  obtain ⟨a, vs, rfl, z, hq, rl⟩ := seq_of h hd
  cases ru
  obtain ⟨e1, e2⟩ := ints_of rl eb
  subst e1
  have hp : xs.all (pl 59) = true := by
    rw [e2, List.all_eq_true]
    intro x hx
    obtain ⟨i, _, rfl⟩ := List.mem_map.mp hx
    rfl
  have hds : PyData.depthAll ((n :: ns).map PyData.int) = 0 := PySem.W.depth_ints _
  have hroom : X.A.units + 1 + PyData.depthAll ((PyData.int n) :: ns.map PyData.int) < cLine := by
    have : (PyData.int n) :: ns.map PyData.int = (n :: ns).map PyData.int := rfl
    rw [this, hds]
    omega
  have fin : ∀ {Q : VK} {k : Int} {v : Value} {h' : Heap} {tk : Nat} {bs : List Addr}, Q (.int k) H → Reads h' v (.int k) bs → (∀ b o, s.heap.get? b = some o → h'.get? b = some o) → EP X pins σ Q v { s with heap := h', toks := tk } := fun {Q k v h' tk bs} q rd hk => by
    cases rd
    exact ⟨.int k, H, I.kept hk, ⟨_, rfl⟩, q⟩
  rcases hq with ⟨hq, hd2⟩ | ⟨hq, hd2⟩
  · obtain ⟨as, rd⟩ := reads_of hK I h (n := 60) (by rw [hd2]; simpa [pl] using hp) (rfl : RelV (.ref a) (.ref a))
    rw [hd2] at rd
    simp only [D.py] at rd
    rw [e2, pys_ints] at rd
    cases rd with
    | @list _ o its nn _ as' h1 h2 h3 h4 =>
      have hl : s.heap.IsList a its := ⟨o, h1, h2, nn, h3⟩
      exact ⟨fun Q q => PySem.W.max_list_data (I.ok.hd hc) hl h4 (alikeAll_ints (n :: ns)) hroom fun i v h' tk bs _ rd' hk => fin q (by rw [PySem.W.maxD_ints] at rd'; exact rd') hk,
        fun Q q => PySem.W.min_list_data (I.ok.hd hc) hl h4 (alikeAll_ints (n :: ns)) hroom fun i v h' tk bs _ rd' hk => fin q (by rw [PySem.W.minD_ints] at rd'; exact rd') hk⟩
  · obtain ⟨as, rd⟩ := reads_of hK I h (n := 60) (by rw [hd2]; simpa [pl] using hp) (rfl : RelV (.ref a) (.ref a))
    rw [hd2] at rd
    simp only [D.py] at rd
    rw [e2, pys_ints] at rd
    cases rd with
    | @tuple _ o its nn _ as' h1 h2 h3 h4 =>
      have hl : s.heap.IsTuple a its := ⟨o, h1, h2, nn, h3⟩
      exact ⟨fun Q q => PySem.W.max_tuple_data (I.ok.hd hc) hl h4 (alikeAll_ints (n :: ns)) hroom fun i v h' tk bs _ rd' hk => fin q (by rw [PySem.W.maxD_ints] at rd'; exact rd') hk,
        fun Q q => PySem.W.min_tuple_data (I.ok.hd hc) hl h4 (alikeAll_ints (n :: ns)) hroom fun i v h' tk bs _ rd' hk => fin q (by rw [PySem.W.minD_ints] at rd'; exact rd') hk⟩
theorem cr_bi (hK : X.K = W.K) (hc : X.calm = true) (hu : X.A.units + 64 < cLine) (b : Bi) : CallR X (biVal b) (rBi W b) := by
  intro pins s σ H xs us Q I r h
  obtain ⟨F, ds, d, f2, ht, e, q⟩ := h
  unfold biD at e
  split at e
  · cases e
    obtain ⟨v, rfl, t1⟩ := ht.one
    obtain ⟨a, vs, rfl, z, t2, r1⟩ := t1.tup
    exact call_len_seq pins s σ H _ us Q I r ⟨a, vs, rfl, .inr (hK ▸ tup_sq t2), by rw [r1.length]; exact q _ _ (.now rfl rfl)⟩
  · cases e
    obtain ⟨v, rfl, t1⟩ := ht.one
    obtain ⟨a, vs, rfl, z, t2, r1⟩ := t1.lst
    exact call_len_seq pins s σ H _ us Q I r ⟨a, vs, rfl, .inl (SqL.of t2), by rw [r1.length]; exact q _ _ (.now rfl rfl)⟩
  · split at e
    · rename_i t hz
      cases e
      obtain ⟨v, rfl, t1⟩ := ht.one
      rw [t1.str] at r
      refine call_len_str pins s σ H _ us Q I r ⟨⟨t.toArray⟩, rfl, ?_, ?_⟩
      · show t.toArray.size ≤ sizeLine
        rw [← szL_eq, List.size_toArray]
        exact hz
      · have : ((⟨t.toArray⟩ : Str).length : Int) = (t.length : Int) := by show (t.toArray.size : Int) = _; rw [List.size_toArray]
        rw [this]
        exact q _ _ (.now rfl rfl)
    · cases e
  · cases e
    obtain ⟨v, rfl, t1⟩ := ht.one
    rw [t1.int] at r
    exact call_int1 pins s σ H _ us Q I r (.inl ⟨_, rfl, q _ _ (.now rfl rfl)⟩)
  · obtain ⟨bs, eb, rfl⟩ := Option.map_eq_some_iff.mp e
    obtain ⟨v, rfl, t1⟩ := ht.one
    obtain ⟨a, vs, rfl, z, t2, r1⟩ := t1.lst
    rw [bls_of r1 eb] at t2
    exact cr_all hc pins s σ H _ us Q I r ⟨a, bs, rfl, SqL.of t2, q _ _ (.now rfl rfl)⟩
  · obtain ⟨bs, eb, rfl⟩ := Option.map_eq_some_iff.mp e
    obtain ⟨v, rfl, t1⟩ := ht.one
    obtain ⟨a, vs, rfl, z, t2, r1⟩ := t1.lst
    rw [bls_of r1 eb] at t2
    exact cr_any hc pins s σ H _ us Q I r ⟨a, bs, rfl, SqL.of t2, q _ _ (.now rfl rfl)⟩
  · cases e
    obtain ⟨v, rfl, t1⟩ := ht.one
    obtain ⟨a, vs, rfl, z, t2, r1⟩ := t1.tup
    exact call_list_of pins s σ H _ us Q I r ⟨a, vs, rfl, .inr (hK ▸ tup_sq t2), fun l hl => q _ _ (.lst f2 hl z r1)⟩
  · cases e
    obtain ⟨v, rfl, t1⟩ := ht.one
    obtain ⟨a, vs, rfl, z, t2, r1⟩ := t1.lst
    exact call_list_of pins s σ H _ us Q I r ⟨a, vs, rfl, .inl (SqL.of t2), fun l hl => q _ _ (.lst f2 hl z r1)⟩
  · cases e
    obtain ⟨v, rfl, t1⟩ := ht.one
    obtain ⟨a, vs, rfl, z, t2, r1⟩ := t1.tup
    exact call_tuple_of pins s σ H _ us Q I r ⟨a, vs, rfl, .inr ⟨hK ▸ tup_sq t2, q _ _ (.now t1 rfl)⟩⟩
  · cases e
    obtain ⟨v, rfl, t1⟩ := ht.one
    obtain ⟨a, vs, rfl, z, t2, r1⟩ := t1.lst
    exact call_tuple_of pins s σ H _ us Q I r ⟨a, vs, rfl, .inl ⟨SqL.of t2, fun l hl => q _ _ (.tup f2 hl z r1)⟩⟩
  · split at e
    · rename_i hs
      cases e
      obtain ⟨v, rfl, t1⟩ := ht.one
      obtain ⟨u, rfl, ru⟩ := vals1 r
      exact cr_sorted_data hK hu I ru f2 t1 rfl hs q
    · cases e
  · split at e
    · rename_i hs
      cases e
      obtain ⟨v, rfl, t1⟩ := ht.one
      obtain ⟨u, rfl, ru⟩ := vals1 r
      exact cr_sorted_data hK hu I ru f2 t1 rfl hs q
    · cases e
  · obtain ⟨ns, eb, rfl⟩ := Option.map_eq_some_iff.mp e
    obtain ⟨v, rfl, t1⟩ := ht.one
    obtain ⟨a, vs, rfl, z, t2, r1⟩ := t1.lst
    rw [(ints_of r1 eb).1] at t2
    exact cr_sum hc pins s σ H _ us Q I r ⟨a, ns, rfl, SqL.of t2, q _ _ (.now rfl rfl)⟩
  · cases e
    obtain ⟨v, u, rfl, t1, t2⟩ := ht.two
    rw [t1.int, t2.int] at r
    exact call_max2 hc pins s σ H _ us Q I r ⟨_, _, rfl, q _ _ (.now rfl rfl)⟩
  · cases e
    obtain ⟨v, u, rfl, t1, t2⟩ := ht.two
    rw [t1.int, t2.int] at r
    exact call_min2 hc pins s σ H _ us Q I r ⟨_, _, rfl, q _ _ (.now rfl rfl)⟩
  · obtain ⟨ns, eb, em⟩ := Option.bind_eq_some_iff.mp e
    obtain ⟨v, rfl, t1⟩ := ht.one
    cases ns with
    | nil => cases em
    | cons n r' => cases em; exact (cr_mm hK hc hu I r f2 t1 rfl eb).1 _ (q _ _ (.now rfl rfl))
  · obtain ⟨ns, eb, em⟩ := Option.bind_eq_some_iff.mp e
    obtain ⟨v, rfl, t1⟩ := ht.one
    cases ns with
    | nil => cases em
    | cons n r' => cases em; exact (cr_mm hK hc hu I r f2 t1 rfl eb).1 _ (q _ _ (.now rfl rfl))
  · obtain ⟨ns, eb, em⟩ := Option.bind_eq_some_iff.mp e
    obtain ⟨v, rfl, t1⟩ := ht.one
    cases ns with
    | nil => cases em
    | cons n r' => cases em; exact (cr_mm hK hc hu I r f2 t1 rfl eb).2 _ (q _ _ (.now rfl rfl))
  · obtain ⟨ns, eb, em⟩ := Option.bind_eq_some_iff.mp e
    obtain ⟨v, rfl, t1⟩ := ht.one
    cases ns with
    | nil => cases em
    | cons n r' => cases em; exact (cr_mm hK hc hu I r f2 t1 rfl eb).2 _ (q _ _ (.now rfl rfl))
  · split at e
    · rename_i i hi
      cases e
      obtain ⟨v, rfl, t1⟩ := ht.one
      rw [t1.int] at r
      exact call_str_int pins s σ H _ us Q I r ⟨_, rfl, hi, q _ _ (.now rfl rfl)⟩
    · cases e
  · cases e
end

/-! ### isinstance -/
def tyNm : Ty → String
  | .int => "int" | .bool => "bool" | .str => "str" | .tuple => "tuple" | .list => "list"
section
variable {X : Cx} {W : Wd}
def rIsi (W : Wd) (t : Ty) : List V → Hp → VK → Prop := fun xs H Q => ∃ F d x b, Fok F H ∧ xs = [x, .ty (tyNm t)] ∧ Top W F H d x ∧ isiD t d = some b ∧ Q (.bl b) H
theorem cr_isi (hK : X.K = W.K) (t : Ty) : CallR X (.builtin "isinstance") (rIsi W t) := by
  intro pins s σ H xs us Q I r h
  obtain ⟨F, d, x, b, f2, rfl, ht, e, q⟩ := h
  obtain ⟨u, w', rfl, r1, r2⟩ := vals2 r
  cases r2
  unfold isiD at e
  by_cases hp : pl 60 d = true
  · rw [if_pos hp] at e
    obtain ⟨as, rd⟩ := reads_of hK I ht hp r1
    have e := Option.some.inj e
    subst e
    cases t
    · refine PySem.W.isinstance_int_data rd fun tk _ => ⟨.bl _, H, I.tok _, ?_, q⟩
      cases d <;> first | rfl | cases hp
    · refine PySem.W.isinstance_bool_data rd fun tk _ => ⟨.bl _, H, I.tok _, ?_, q⟩
      cases d <;> first | rfl | cases hp
    · refine PySem.W.isinstance_str_data rd fun tk _ => ⟨.bl _, H, I.tok _, ?_, q⟩
      cases d <;> first | rfl | cases hp
    · refine PySem.W.isinstance_tuple_data rd fun tk _ => ⟨.bl _, H, I.tok _, ?_, q⟩
      cases d <;> first | rfl | cases hp
    · refine PySem.W.isinstance_list_data rd fun tk _ => ⟨.bl _, H, I.tok _, ?_, q⟩
      cases d <;> first | rfl | cases hp
  · rw [if_neg hp] at e
    cases e
end

end Ip

/-! IpE: what an expression's term of the language says of the expression. -/
namespace Ip
open PySem PySem.Spec PyProof.Rows L2

/-! ### standing of operands, of what is one's own -/
section
variable {W : Wd} {F F' F'' : Addr → Prop} {H H' H'' : Hp} {s s' : T}
/-- an operand: a list is not the tape -/
def Opd (W : Wd) (F : Addr → Prop) (H : Hp) (d : D) (v : V) : Prop := Top W F H d v ∧ ∀ a, v = .ref a → (∃ ds, d = .lst ds) → a ≠ W.ba ∧ a ≠ W.ca
/-- a place at which things stand in order -/
structure Pl (W : Wd) (F : Addr → Prop) (H : Hp) (s : T) : Prop where
  f2 : ∀ a, F a → H a ≠ none
  f3 : ¬ F W.ba ∧ ¬ F W.ca
  tape : Tp W s H
theorem Sim.pl {r : Env} {σ : L2.St} (S : Sim W F r s σ H) : Pl W F H s := ⟨S.f2, S.f3, S.tape⟩
theorem Pl.ext (P : Pl W F H s) (e : Ext W F H F' H') (t : Tp W s' H') : Pl W F' H' s' := ⟨e.live, ⟨fun h => by
    rcases e.new _ h with z | z
    · exact P.f3.1 z
    · exact P.tape.ba_some z, fun h => by
    rcases e.new _ h with z | z
    · exact P.f3.2 z
    · exact P.tape.ca_some z⟩, t⟩
theorem Pl.rep (P : Pl W F H s) (e : Ext W F H F' H') {d : D} {v : V} (h : Rep W F H d v) : Rep W F' H' d v := Rep.mono e.mono (e.frozen P.f2 P.f3) d v h
theorem Pl.repL (P : Pl W F H s) (e : Ext W F H F' H') {ds : List D} {vs : List V} (h : RepL W F H ds vs) : RepL W F' H' ds vs := RepL.mono e.mono (e.frozen P.f2 P.f3) ds vs h
theorem Pl.opd (P : Pl W F H s) {d : D} {v : V} (h : Rep W F H d v) : Opd W F H d v := ⟨h.top, by
  rintro a rfl ⟨ds, rfl⟩
  simp only [Rep] at h
  obtain ⟨b, vs, e, _, ⟨f, _⟩, _⟩ := h
  cases e
  exact ⟨fun z => P.f3.1 (z ▸ f), fun z => P.f3.2 (z ▸ f)⟩⟩
theorem Pl.ext_opd (P : Pl W F H s) (e : Ext W F H F' H') {d : D} {v : V} (h : Opd W F H d v) : Opd W F' H' d v := by
  refine ⟨?_, h.2⟩
  have h1 := h.1
  cases d with
  | lst ds =>
    obtain ⟨a, vs, ea, z, h1, h2⟩ := h1
    obtain ⟨n1, n2⟩ := h.2 a ea ⟨ds, rfl⟩
    exact ⟨a, vs, ea, z, e.keep a _ h1 n1 n2, P.repL e h2⟩
  | _ => exact P.rep e h1
/-- what a maker gives: a changeable thing is new and not frozen -/
def Own (W : Wd) (H : Hp) (F' : Addr → Prop) (H' : Hp) (d : D) (v : V) : Prop :=
  if isMut d = true then ∃ a, v = .ref a ∧ H a = none ∧ ¬ F' a ∧ H' a ≠ none ∧ Top W F' H' d v else Rep W F' H' d v
theorem Fre.some {d : D} {a : Addr} (h : Fre W F H d a) : H a ≠ none := by
  cases d with
  | lst ds => obtain ⟨vs, _, q, _⟩ := h; rw [q]; simp
  | tup ds => obtain ⟨vs, _, q, _⟩ := h; rw [q]; simp
  | _ => exact h.elim
theorem New.own {d : D} {v : V} (P : Pl W F H s) (e : Ext W F H F' H') (t : Tp W s' H') (n : New W F' H' d v H'') : ∃ F'', Ext W F H F'' H'' ∧ Tp W s' H'' ∧ Own W H F'' H'' d v := by
  rcases n with ⟨rfl, r, m⟩ | ⟨a, o, rfl, ha, rfl, fr⟩
  · exact ⟨F', e, t, by unfold Own; rw [m]; exact r⟩
  · have e2 := e.trans (Ext.laid (W := W) e.live (o := o) ha)
    have h0 : H a = none := by
      cases q : H a with
      | none => rfl
      | some o => exact absurd ha (e.alive a (by rw [q]; simp))
    by_cases m : isMut d = true
    · refine ⟨F', e2, t.laid ha, ?_⟩
      unfold Own
      rw [if_pos m]
      exact ⟨a, rfl, h0, fun z => e.live a z ha, by rw [upd_same]; simp, fr.top m⟩
    · refine ⟨_, e2.freeze h0 (by rw [upd_same]; simp), t.laid ha, ?_⟩
      unfold Own
      rw [if_neg m]
      exact fr.freeze
/-- frozen -/
theorem Own.rep {d : D} {v : V} (e : Ext W F H F' H') (h : Own W H F' H' d v) : ∃ F'', Ext W F H F'' H' ∧ Rep W F'' H' d v := by
  unfold Own at h
  split at h
  · obtain ⟨a, rfl, h0, _, hn, t⟩ := h
    exact ⟨_, e.freeze h0 hn, t.freeze⟩
  · exact ⟨_, e, h⟩
theorem Own.opd {d : D} {v : V} (P : Pl W F H s) (P' : Pl W F' H' s') (h : Own W H F' H' d v) : Opd W F' H' d v := by
  unfold Own at h
  split at h
  · obtain ⟨a, rfl, h0, _, hn, t⟩ := h
    refine ⟨t, ?_⟩
    rintro b e _
    cases e
    exact ⟨fun z => P.tape.ba_some (z ▸ h0), fun z => P.tape.ca_some (z ▸ h0)⟩
  · exact P'.opd h
theorem Sim.opd {r : Env} {σ : L2.St} (S : Sim W F r s σ H) {i : Nat} {d : D} (e : evL r i = some d) : ∃ v, σ[i]? = some (some v) ∧ Opd W F H d v := by
  unfold evL at e
  split at e
  · rename_i p hp
    obtain ⟨b, d'⟩ := p
    cases e
    cases b with
    | false =>
      obtain ⟨v, e1, q⟩ := S.val i _ hp
      exact ⟨v, e1, S.pl.opd q⟩
    | true =>
      obtain ⟨a, e1, q, _, _, _, n1, n2⟩ := S.own i _ hp
      exact ⟨.ref a, e1, q, by rintro b e _; cases e; exact ⟨n1, n2⟩⟩
  · cases e
theorem Sim.rep {r : Env} {σ : L2.St} (S : Sim W F r s σ H) {i : Nat} {d : D} (e : evV r i = some d) : ∃ v, σ[i]? = some (some v) ∧ Rep W F H d v := by
  unfold evV at e
  split at e
  · rename_i d' hp
    cases e
    exact S.val i _ hp
  · cases e
def OpdL (W : Wd) (F : Addr → Prop) (H : Hp) : List D → List V → Prop
  | [], vs => vs = []
  | d :: ds, vs => ∃ v r, vs = v :: r ∧ Opd W F H d v ∧ OpdL W F H ds r
theorem OpdL.top : ∀ {ds : List D} {vs : List V}, OpdL W F H ds vs → TopL W F H ds vs
  | [], _, h => h
  | _ :: _, _, ⟨v, r, e, h1, h2⟩ => ⟨v, r, e, h1.1, OpdL.top h2⟩
end

/-! ### the place in the program: slots, scope, the defs' names -/
structure Sc where
  N : List Str
  sc : Scope
  fn : Str → Bool
  ft : Str → Option (Nat × Nat)
def Sc.blk (S : Sc) (scope : Scope) : Sc := ⟨S.N, relS scope S.sc, fun x => scope.names.lookup x == some .cell, S.ft⟩
/-- what a call does -/
def spG (K : PySem.W.Frag) (ba ca : Addr) (G : Gl) (i n : Nat) : Sp := fun vs H Q _ => ∃ (W : Wd) (F : Addr → Prop) (ds : List D) (s : T) (d : D) (s' : T), W.K = K ∧ W.ba = ba ∧ W.ca = ca ∧ Pl W F H s ∧ RepL W F H ds vs ∧ vs.length = n ∧ G.cl i ds s = some (d, s') ∧
  ∀ F' v H', Ext W F H F' H' → Tp W s' H' → Rep W F' H' d v → Q v H'
def Cal (X : Cx) (W : Wd) (G : Gl) (i n : Nat) (x : Str) : Prop :=
  ∃ (k : Nat) (f : Addr) (fd : FuncData) (ps : List Str), FnOk X.prog X.w X.K X.mg X.base CX0 k f fd ps (spG W.K W.ba W.ca G i n) ∧ Room k X.A ∧ X.mg x = some (.ref f) ∧ PySem.W.keepIn X.K (.ref f) = true ∧ Binds X.K fd ps []
def btN : List Str := ["len", "int", "str", "all", "any", "list", "tuple", "sorted", "sum", "max", "min", "isinstance", "bool", "range", "zip", "enumerate", "dict", "set"]
structure Std (S : Sc) (W : Wd) (G : Gl) (X : Cx) : Prop where
  hN : X.N = S.N
  hs : X.env.scope = S.sc
  hf : ∀ x, S.fn x = true → X.fn x = true
  hK : X.K = W.K
  calm : X.calm = true
  nd : S.N.Nodup
  un : X.A.units + 64 < cLine
  po : PassesOwn (model X.prog X.w) X.A X.env X.xe
  bt : ∀ x ∈ btN, X.mg x = none
  cl : ∀ x i n, S.ft x = some (i, n) → Cal X W G i n x
theorem Std.blk {S : Sc} {W : Wd} {G : Gl} {X : Cx} (h : Std S W G X) {scope : Scope} (s : Shared) (H : Hp) (C : Addr) (cl : List (Str × Addr)) (fp : List Addr) : Std (S.blk scope) W G (X.blk s H scope (compEnvC scope cl C X.env) fp) where
  hN := h.hN
  hs := by show relS scope X.env.scope = _; rw [h.hs]; rfl
  hf := fun _ e => e
  hK := h.hK
  calm := h.calm
  nd := h.nd
  un := h.un
  po := PassesOwn.never
  bt := h.bt
  cl := h.cl

/-! ### readings -/
def gV (W : Wd) (G : Gl) (e : E) : TE := fun σ H Q => ∃ F r s d s', Sim W F r s σ H ∧ (ev G e r).v s = some (d, s') ∧ ∀ F' v H', Ext W F H F' H' → Tp W s' H' → Rep W F' H' d v → Q v H'
def gO (W : Wd) (G : Gl) (e : E) : TE := fun σ H Q => ∃ F r s d s', Sim W F r s σ H ∧ (ev G e r).o s = some (d, s') ∧ ∀ F' v H', Ext W F H F' H' → Tp W s' H' → Opd W F' H' d v → Q v H'
def gT (W : Wd) (G : Gl) (e : E) : TT := fun σ H Q => ∃ F r s b s', Sim W F r s σ H ∧ (ev G e r).t s = some (b, s') ∧ ∀ F' H', Ext W F H F' H' → Tp W s' H' → Q b H'
def gF (W : Wd) (G : Gl) (e : E) : TE := fun σ H Q => ∃ F r s d s', Sim W F r s σ H ∧ (ev G e r).v s = some (d, s') ∧ ∀ F' v H', Ext W F H F' H' → Tp W s' H' → Own W H F' H' d v → Q v H'
def aV (W : Wd) (G : Gl) (es : List E) : TA := fun σ H Q => ∃ F r s ds s', Sim W F r s σ H ∧ evs G es r s = some (ds, s') ∧ ∀ F' vs H', Ext W F H F' H' → Tp W s' H' → RepL W F' H' ds vs → Q vs H'
def aO (W : Wd) (G : Gl) (es : List E) : TA := fun σ H Q => ∃ F r s ds s', Sim W F r s σ H ∧ evos G es r s = some (ds, s') ∧ ∀ F' vs H', Ext W F H F' H' → Tp W s' H' → OpdL W F' H' ds vs → Q vs H'
def oG (W : Wd) (G : Gl) (e : Option E) : TO := fun σ H Q => ∃ F r s o s', Sim W F r s σ H ∧ evo? G e r s = some (o, s') ∧ ∀ F' H', Ext W F H F' H' → Tp W s' H' → Q o H'
theorem PE.weak {X : Cx} {x : Expr} {t u : TE} (h : PE X x t) (w : ∀ σ H Q, u σ H Q → t σ H Q) : PE X x u := ⟨fun pins s σ H Q I q => h.run pins s σ H Q I (w σ H Q q)⟩
theorem PT.weak {X : Cx} {x : Expr} {t u : TT} (h : PT X x t) (w : ∀ σ H Q, u σ H Q → t σ H Q) : PT X x u := ⟨fun pins s σ H Q I q => h.run pins s σ H Q I (w σ H Q q)⟩
theorem PW.weak {X : Cx} {x : Expr} {t u : TT} (h : PW X x t) (w : ∀ σ H Q, u σ H Q → t σ H Q) : PW X x u := ⟨fun wh pins s σ H Q I q => h.run wh pins s σ H Q I (w σ H Q q)⟩
theorem PA.weak {X : Cx} {x : List Expr} {t u : TA} (h : PA X x t) (w : ∀ σ H Q, u σ H Q → t σ H Q) : PA X x u := ⟨fun pos pins s σ H Q I q => h.run pos pins s σ H Q I (w σ H Q q)⟩
theorem PO.weak {X : Cx} {x : Option Expr} {t u : TO} (h : PO X x t) (w : ∀ σ H Q, u σ H Q → t σ H Q) : PO X x u := ⟨fun pins s σ H Q I q => h.run pins s σ H Q I (w σ H Q q)⟩
theorem pe_no {X : Cx} {x : Expr} : PE X x (fun _ _ _ => False) := ⟨fun _ _ _ _ _ _ h => h.elim⟩
theorem pt_no {X : Cx} {x : Expr} : PT X x (fun _ _ _ => False) := ⟨fun _ _ _ _ _ _ h => h.elim⟩
structure SEx (X : Cx) (W : Wd) (G : Gl) (x : Expr) (e : E) : Prop where
  v : PE X x (gV W G e)
  o : PE X x (gO W G e)
  t : PT X x (gT W G e)
def SE (S : Sc) (W : Wd) (G : Gl) (x : Expr) (e : E) : Prop := ∀ X, Std S W G X → SEx X W G x e
def SF (S : Sc) (W : Wd) (G : Gl) (x : Expr) (e : E) : Prop := ∀ X, Std S W G X → PE X x (gF W G e)
structure SA (S : Sc) (W : Wd) (G : Gl) (xs : List Expr) (es : List E) : Prop where
  st : ∀ env, starEach xs env = xs.map fun x => (false, eval x env)
  v : ∀ X, Std S W G X → PA X xs (aV W G es)
  o : ∀ X, Std S W G X → PA X xs (aO W G es)
def SO (S : Sc) (W : Wd) (G : Gl) (x : Option Expr) (e : Option E) : Prop := ∀ X, Std S W G X → PO X x (oG W G e)
/-- the term is one whose readings are all one -/
def Mk (G : Gl) (e : E) : Prop := ∀ r, ∃ f, ev G e r = mk f
def PlainT (x : Expr) : Prop := ∀ env whole, isTrue x env whole = (do let v ← whole; standAt x.pos; holding [v] (truthy v))
section
variable {S : Sc} {W : Wd} {G : Gl} {X : Cx} {x y : Expr} {e e' : E}
theorem gO_t (hx : PlainT x) (h : Std S W G X) (hm : Mk G e) (o : PE X x (gO W G e)) : PT X x (gT W G e) := by
  refine PT.weak (pt_truth o (hx _)) fun σ H Q q => ?_
  obtain ⟨F, r, s, b, s', S0, ee, k⟩ := q
  obtain ⟨f, hf⟩ := hm r
  rw [hf] at ee
  obtain ⟨p, e1, e2⟩ := Option.bind_eq_some_iff.mp ee
  obtain ⟨c, e3, e4⟩ := Option.map_eq_some_iff.mp e2
  cases e4
  refine ⟨F, r, s, p.1, p.2, S0, by rw [hf]; exact e1, fun F' v H' E1 T1 O1 => ⟨b, ?_, k F' H' E1 T1⟩⟩
  rw [h.hK]
  exact tru_of O1.1 e3
/-- from a maker's reading -/
theorem SEx.of_F (hx : PlainT x) (h : Std S W G X) (hm : Mk G e) (f : PE X x (gF W G e)) : SEx X W G x e := by
  have o : PE X x (gO W G e) := by
    refine PE.weak f fun σ H Q q => ?_
    obtain ⟨F, r, s, d, s', S0, ee, k⟩ := q
    obtain ⟨g, hg⟩ := hm r
    rw [hg] at ee
    refine ⟨F, r, s, d, s', S0, by rw [hg]; exact ee, fun F' v H' E1 T1 O1 => k F' v H' E1 T1 (Own.opd S0.pl (S0.pl.ext E1 T1) O1)⟩
  refine ⟨?_, o, gO_t hx h hm o⟩
  refine PE.weak f fun σ H Q q => ?_
  obtain ⟨F, r, s, d, s', S0, ee, k⟩ := q
  refine ⟨F, r, s, d, s', S0, ee, fun F' v H' E1 T1 O1 => ?_⟩
  obtain ⟨F2, E2, R2⟩ := Own.rep E1 O1
  exact k F2 v H' E2 T1 R2
/-- from a value's reading -/
theorem SEx.of_V (hx : PlainT x) (h : Std S W G X) (hm : Mk G e) (f : PE X x (gV W G e)) : SEx X W G x e := by
  have o : PE X x (gO W G e) := by
    refine PE.weak f fun σ H Q q => ?_
    obtain ⟨F, r, s, d, s', S0, ee, k⟩ := q
    obtain ⟨g, hg⟩ := hm r
    rw [hg] at ee
    exact ⟨F, r, s, d, s', S0, by rw [hg]; exact ee, fun F' v H' E1 T1 R1 => k F' v H' E1 T1 ((S0.pl.ext E1 T1).opd R1)⟩
  exact ⟨f, o, gO_t hx h hm o⟩
theorem SF.se (hx : PlainT x) (hm : Mk G e) (f : SF S W G x e) : SE S W G x e := fun X h => SEx.of_F hx h hm (f X h)

/-! ### lists of expressions -/
theorem sa_nil : SA S W G [] [] := ⟨fun _ => rfl, fun X _ => PA.weak pa_nil fun σ H Q q => by
    obtain ⟨F, r, s, ds, s', S0, ee, k⟩ := q
    cases ee
    exact k F [] H (Ext.refl S0.f2) S0.tape rfl, fun X _ => PA.weak pa_nil fun σ H Q q => by
    obtain ⟨F, r, s, ds, s', S0, ee, k⟩ := q
    cases ee
    exact k F [] H (Ext.refl S0.f2) S0.tape rfl⟩
theorem sa_cons {xs : List Expr} {es : List E} (h1 : SE S W G x e) (h2 : SA S W G xs es) (hs : ∀ env, starEach (x :: xs) env = (false, eval x env) :: starEach xs env := by intro _; rfl) : SA S W G (x :: xs) (e :: es) := by
  refine ⟨fun env => by rw [hs, h2.st, List.map_cons], fun X hX => ?_, fun X hX => ?_⟩
  · refine PA.weak (pa_cons (h1 X hX).v (h2.v X hX) (hs _)) fun σ H Q q => ?_
    obtain ⟨F, r, s, ds, s', S0, ee, k⟩ := q
    rw [evs] at ee
    obtain ⟨p, e1, e2⟩ := Option.bind_eq_some_iff.mp ee
    obtain ⟨c, e3, e4⟩ := Option.map_eq_some_iff.mp e2
    cases e4
    refine ⟨F, r, s, p.1, p.2, S0, e1, fun F1 v H1 E1 T1 R1 => ⟨F1, r, p.2, c.1, c.2, S0.ext E1 T1, e3, fun F2 vs H2 E2 T2 R2 => ?_⟩⟩
    exact k F2 (v :: vs) H2 (E1.trans E2) T2 ⟨v, vs, rfl, (S0.pl.ext E1 T1).rep E2 R1, R2⟩
  · refine PA.weak (pa_cons (h1 X hX).o (h2.o X hX) (hs _)) fun σ H Q q => ?_
    obtain ⟨F, r, s, ds, s', S0, ee, k⟩ := q
    rw [evos] at ee
    obtain ⟨p, e1, e2⟩ := Option.bind_eq_some_iff.mp ee
    obtain ⟨c, e3, e4⟩ := Option.map_eq_some_iff.mp e2
    cases e4
    refine ⟨F, r, s, p.1, p.2, S0, e1, fun F1 v H1 E1 T1 R1 => ⟨F1, r, p.2, c.1, c.2, S0.ext E1 T1, e3, fun F2 vs H2 E2 T2 R2 => ?_⟩⟩
    exact k F2 (v :: vs) H2 (E1.trans E2) T2 ⟨v, vs, rfl, (S0.pl.ext E1 T1).ext_opd E2 R1, R2⟩
theorem SA.head {xs : List Expr} {es : List E} (h : SA S W G (x :: xs) es) (env : PySem.Env) : starEach (x :: xs) env = (false, eval x env) :: starEach xs env := by
  have h1 := h.st env
  rw [h1, List.map_cons]
  congr 1
  have : ∀ (x : Expr) (xs : List Expr), starEach (x :: xs) env = (x :: xs).map (fun x => (false, eval x env)) → starEach xs env = xs.map (fun x => (false, eval x env)) := by
    intro x xs q
    cases x <;> (simp only [starEach, List.map_cons, List.cons.injEq] at q; first | exact q.2 | (exact absurd (congrArg Prod.fst q.1) (by decide)))
  exact (this x xs h1).symm
theorem SA.tail {xs : List Expr} {es : List E} (h : SA S W G (x :: xs) es) (env : PySem.Env) : starEach xs env = xs.map fun x => (false, eval x env) := by
  have h1 := h.head env
  rw [h.st env, List.map_cons] at h1
  exact (List.cons.inj h1).2.symm
theorem SA.plain {xs : List Expr} {es : List E} (h : SA S W G (x :: xs) es) (env : PySem.Env) (pos : Pos) : (backTo pos (starEach xs env)).any (·.1) = false := by
  rw [h.tail env]
  simp [backTo]
end
end Ip

/-! IpF: the expressions' rules. -/
namespace Ip
open PySem PySem.Spec PyProof.Rows L2
section
variable {S : Sc} {W : Wd} {G : Gl} {X : Cx} {x y z : Expr} {a b c e : E} {pos : Pos}
theorem se_bad : SE S W G x .bad := fun X _ => by
  refine ⟨PE.weak pe_no fun σ H Q q => ?_, PE.weak pe_no fun σ H Q q => ?_, PT.weak pt_no fun σ H Q q => ?_⟩
  all_goals
    obtain ⟨F, r, s, d, s', S0, ee, k⟩ := q
    rw [ev] at ee
    cases ee
theorem se_var (i : Nat) {n : Str} (hi : S.N[i]? = some n := by rfl) (hv : Vis S.sc n := by first | exact Or.inl rfl | exact Or.inr (Or.inl rfl) | exact Or.inr (Or.inr rfl)) (hd : (n == ("__debug__" : Str)) = false := by decide) (hcd : (n == ("__classdict__" : Str)) = false := by decide) :
    SE S W G (.Name n pos) (.loc i) := fun X h => by
  have p : PE X (.Name n pos) (tVar i) := pe_var (by rw [h.hN]; exact hi) (by rw [h.hs]; exact hv) hd hcd
  have o : PE X (.Name n pos) (gO W G (.loc i)) := by
    refine PE.weak p fun σ H Q q => ?_
    obtain ⟨F, r, s, d, s', S0, ee, k⟩ := q
    rw [ev] at ee
    obtain ⟨d', e1, e2⟩ := Option.map_eq_some_iff.mp ee
    cases e2
    obtain ⟨v, e3, t⟩ := S0.opd e1
    exact ⟨v, e3, k F v H (Ext.refl S0.f2) S0.tape t⟩
  refine ⟨?_, o, ?_⟩
  · refine PE.weak p fun σ H Q q => ?_
    obtain ⟨F, r, s, d, s', S0, ee, k⟩ := q
    rw [ev] at ee
    obtain ⟨d', e1, e2⟩ := Option.map_eq_some_iff.mp ee
    cases e2
    obtain ⟨v, e3, t⟩ := S0.rep e1
    exact ⟨v, e3, k F v H (Ext.refl S0.f2) S0.tape t⟩
  · refine PT.weak (pt_truth o (fun _ => rfl)) fun σ H Q q => ?_
    obtain ⟨F, r, s, d, s', S0, ee, k⟩ := q
    rw [ev] at ee
    obtain ⟨d', e1, e2⟩ := Option.bind_eq_some_iff.mp ee
    obtain ⟨c, e3, e4⟩ := Option.map_eq_some_iff.mp e2
    cases e4
    refine ⟨F, r, s, d', s, S0, by rw [ev]; show Option.map _ (evL r i) = _; rw [e1]; rfl, fun F' v H' E1 T1 O1 => ⟨d, ?_, k F' H' E1 T1⟩⟩
    rw [h.hK]
    exact tru_of O1.1 e3
/-- constants -/
theorem sf_con {v : V} {d : D} (p : ∀ X : Cx, PE X x (tC v)) (m : isMut d = false) (hr : ∀ F H, Rep W F H d v) : SF S W G x (.con d) := fun X h => by
  refine PE.weak (p X) fun σ H Q q => ?_
  obtain ⟨F, r, s, d, s', S0, ee, k⟩ := q
  rw [ev] at ee
  cases ee
  exact k F v H (Ext.refl S0.f2) S0.tape (by unfold Own; rw [m]; exact hr F H)
theorem mk_con {d : D} : Mk G (.con d) := fun r => ⟨_, by rw [ev]⟩
theorem se_int {i : Int} {j : Nat} : SE S W G (.Constant (.int i) j pos) (.con (.int i)) := SF.se (fun _ _ => rfl) mk_con (sf_con (fun _ => pe_int) rfl fun _ _ => rfl)
theorem se_bl {i : Bool} {j : Nat} : SE S W G (.Constant (.bool i) j pos) (.con (.bl i)) := SF.se (fun _ _ => rfl) mk_con (sf_con (fun _ => pe_bl) rfl fun _ _ => rfl)
theorem se_non {j : Nat} : SE S W G (.Constant .none j pos) (.con .non) := SF.se (fun _ _ => rfl) mk_con (sf_con (fun _ => pe_non) rfl fun _ _ => rfl)
theorem se_str {i : Str} {j : Nat} {l : List Nat} (hl : i.cps.toList = l := by rfl) : SE S W G (.Constant (.str i) j pos) (.con (.str l)) := SF.se (fun _ _ => rfl) mk_con (sf_con (fun _ => pe_str) rfl fun _ _ => by
  subst hl
  simp only [Rep])
/-! ### operations -/
theorem mk_bin {o : Op} : Mk G (.bin o a b) := fun r => ⟨_, by rw [ev]⟩
theorem sf_bin (o : Op) (ha : SE S W G x a) (hb : SE S W G y b) : SF S W G (.BinOp x (opOf o) y pos) (.bin o a b) := fun X h => by
  refine PE.weak (pe_op (op_bin h.hK o) (ha X h).o (hb X h).o) fun σ H Q q => ?_
  obtain ⟨F, r, s, d, s', S0, ee, k⟩ := q
  rw [ev] at ee
  obtain ⟨p, e1, e2⟩ := Option.bind_eq_some_iff.mp ee
  obtain ⟨q, e3, e4⟩ := Option.bind_eq_some_iff.mp e2
  obtain ⟨d', e5, e6⟩ := Option.map_eq_some_iff.mp e4
  cases e6
  refine ⟨F, r, s, p.1, p.2, S0, e1, fun F1 v1 H1 E1 T1 O1 => ⟨F1, r, p.2, q.1, q.2, S0.ext E1 T1, e3, fun F2 v2 H2 E2 T2 O2 => ?_⟩⟩
  have P1 := S0.pl.ext E1 T1
  refine ⟨F2, p.1, q.1, d, E2.live, (P1.ext_opd E2 O1).1, O2.1, e5, fun v H' n => ?_⟩
  obtain ⟨F3, E3, T3, O3⟩ := New.own S0.pl (E1.trans E2) T2 n
  exact k F3 v H' E3 T3 O3
theorem se_bin (o : Op) (ha : SE S W G x a) (hb : SE S W G y b) : SE S W G (.BinOp x (opOf o) y pos) (.bin o a b) := SF.se (fun _ _ => rfl) mk_bin (sf_bin o ha hb)
theorem intO_some {o : Option (D × T)} {p : Int × T} (h : intO o = some p) : o = some (.int p.1, p.2) := by
  unfold intO at h
  split at h
  · cases h; rfl
  · cases h
theorem se_neg (ha : SE S W G x a) : SE S W G (.UnaryOp .USub x pos) (.neg a) := SF.se (fun _ _ => rfl) (fun r => ⟨_, by rw [ev]⟩) fun X h => by
  refine PE.weak (pe_un un_neg (ha X h).o) fun σ H Q q => ?_
  obtain ⟨F, r, s, d, s', S0, ee, k⟩ := q
  rw [ev] at ee
  obtain ⟨p, e1, e2⟩ := Option.map_eq_some_iff.mp ee
  cases e2
  exact ⟨F, r, s, .int p.1, p.2, S0, intO_some e1, fun F1 v1 H1 E1 T1 O1 => ⟨p.1, O1.1.int, k F1 _ H1 E1 T1 rfl⟩⟩
theorem se_not (ha : SE S W G x a) : SE S W G (.UnaryOp .Not x pos) (.not_ a) := fun X h => by
  have f : PE X (.UnaryOp .Not x pos) (gF W G (.not_ a)) := by
    refine PE.weak (pe_notT (ha X h).o) fun σ H Q q => ?_
    obtain ⟨F, r, s, d, s', S0, ee, k⟩ := q
    rw [ev] at ee
    obtain ⟨p, e1, e2⟩ := Option.bind_eq_some_iff.mp ee
    obtain ⟨c, e3, e4⟩ := Option.map_eq_some_iff.mp e2
    cases e4
    refine ⟨F, r, s, p.1, p.2, S0, e1, fun F1 v1 H1 E1 T1 O1 => ⟨c, ?_, k F1 _ H1 E1 T1 rfl⟩⟩
    rw [h.hK]
    exact tru_of O1.1 e3
  refine ⟨?_, ?_, ?_⟩
  · refine PE.weak f fun σ H Q q => ?_
    obtain ⟨F, r, s, d, s', S0, ee, k⟩ := q
    refine ⟨F, r, s, d, s', S0, ee, fun F' v H' E1 T1 O1 => ?_⟩
    obtain ⟨F2, E2, R2⟩ := Own.rep E1 O1
    exact k F2 v H' E2 T1 R2
  · refine PE.weak f fun σ H Q q => ?_
    obtain ⟨F, r, s, d, s', S0, ee, k⟩ := q
    exact ⟨F, r, s, d, s', S0, by rw [ev] at ee ⊢; exact ee, fun F' v H' E1 T1 O1 => k F' v H' E1 T1 (Own.opd S0.pl (S0.pl.ext E1 T1) O1)⟩
  · refine PT.weak (pt_not (ha X h).t) fun σ H Q q => ?_
    obtain ⟨F, r, s, d, s', S0, ee, k⟩ := q
    rw [ev] at ee
    obtain ⟨p, e1, e2⟩ := Option.map_eq_some_iff.mp ee
    cases e2
    exact ⟨F, r, s, p.1, p.2, S0, e1, fun F1 H1 E1 T1 => k F1 H1 E1 T1⟩
/-! ### and, or -/
structure SBx (X : Cx) (W : Wd) (G : Gl) (x : Expr) (e : E) : Prop where
  v : PE X x (gV W G e)
  t : PW X x (gT W G e)
def SB (S : Sc) (W : Wd) (G : Gl) (x : Expr) (e : E) : Prop := ∀ X, Std S W G X → SBx X W G x e
theorem sb_and1 (ha : SE S W G x a) : SB S W G (.BoolOp .And [x] pos) a := fun X h => ⟨pe_one (ha X h).v, pw_and1 (ha X h).t⟩
theorem sb_or1 (ha : SE S W G x a) : SB S W G (.BoolOp .Or [x] pos) a := fun X h => ⟨pe_one (ha X h).v, pw_or1 (ha X h).t⟩
theorem sb_and {xs : List Expr} (ha : SE S W G x a) (hb : SB S W G (.BoolOp .And (y :: xs) pos) b) : SB S W G (.BoolOp .And (x :: y :: xs) pos) (.and_ a b) := fun X h => by
  refine ⟨PE.weak (pe_andT (ha X h).v (hb X h).v) fun σ H Q q => ?_, PW.weak (pw_and (ha X h).t (hb X h).t) fun σ H Q q => ?_⟩
  · obtain ⟨F, r, s, d, s', S0, ee, k⟩ := q
    rw [ev] at ee
    obtain ⟨p, e1, e2⟩ := Option.bind_eq_some_iff.mp ee
    obtain ⟨c, e3, e4⟩ := Option.bind_eq_some_iff.mp e2
    refine ⟨F, r, s, p.1, p.2, S0, e1, fun F1 v1 H1 E1 T1 O1 => ⟨c, by rw [h.hK]; exact tru_of O1.top e3, ?_⟩⟩
    cases c with
    | true => exact ⟨F1, r, p.2, d, s', S0.ext E1 T1, e4, fun F2 v H' E2 T2 R2 => k F2 v H' (E1.trans E2) T2 R2⟩
    | false => cases e4; exact k F1 v1 H1 E1 T1 O1
  · obtain ⟨F, r, s, d, s', S0, ee, k⟩ := q
    rw [ev] at ee
    obtain ⟨p, e1, e2⟩ := Option.bind_eq_some_iff.mp ee
    obtain ⟨p, s1⟩ := p
    refine ⟨F, r, s, p, s1, S0, e1, fun F1 H1 E1 T1 => ?_⟩
    cases p with
    | true => exact ⟨F1, r, s1, d, s', S0.ext E1 T1, e2, fun F2 H' E2 T2 => k F2 H' (E1.trans E2) T2⟩
    | false => cases e2; exact k F1 H1 E1 T1
theorem sb_or {xs : List Expr} (ha : SE S W G x a) (hb : SB S W G (.BoolOp .Or (y :: xs) pos) b) : SB S W G (.BoolOp .Or (x :: y :: xs) pos) (.or_ a b) := fun X h => by
  refine ⟨PE.weak (pe_orT (ha X h).v (hb X h).v) fun σ H Q q => ?_, PW.weak (pw_or (ha X h).t (hb X h).t) fun σ H Q q => ?_⟩
  · obtain ⟨F, r, s, d, s', S0, ee, k⟩ := q
    rw [ev] at ee
    obtain ⟨p, e1, e2⟩ := Option.bind_eq_some_iff.mp ee
    obtain ⟨c, e3, e4⟩ := Option.bind_eq_some_iff.mp e2
    refine ⟨F, r, s, p.1, p.2, S0, e1, fun F1 v1 H1 E1 T1 O1 => ⟨c, by rw [h.hK]; exact tru_of O1.top e3, ?_⟩⟩
    cases c with
    | false => exact ⟨F1, r, p.2, d, s', S0.ext E1 T1, e4, fun F2 v H' E2 T2 R2 => k F2 v H' (E1.trans E2) T2 R2⟩
    | true => cases e4; exact k F1 v1 H1 E1 T1 O1
  · obtain ⟨F, r, s, d, s', S0, ee, k⟩ := q
    rw [ev] at ee
    obtain ⟨p, e1, e2⟩ := Option.bind_eq_some_iff.mp ee
    obtain ⟨p, s1⟩ := p
    refine ⟨F, r, s, p, s1, S0, e1, fun F1 H1 E1 T1 => ?_⟩
    cases p with
    | false => exact ⟨F1, r, s1, d, s', S0.ext E1 T1, e2, fun F2 H' E2 T2 => k F2 H' (E1.trans E2) T2⟩
    | true => cases e2; exact k F1 H1 E1 T1
theorem SB.se (hab : (∃ p q, e = .and_ p q) ∨ ∃ p q, e = .or_ p q) (hb : SB S W G x e) : SE S W G x e := fun X h => by
  refine ⟨(hb X h).v, PE.weak (hb X h).v fun σ H Q q => ?_, (hb X h).t.pt⟩
  obtain ⟨F, r, s, d, s', S0, ee, k⟩ := q
  refine ⟨F, r, s, d, s', S0, ?_, fun F' v H' E1 T1 R1 => k F' v H' E1 T1 ((S0.pl.ext E1 T1).opd R1)⟩
  rcases hab with ⟨p, q, rfl⟩ | ⟨p, q, rfl⟩ <;> (rw [ev] at ee ⊢; exact ee)
theorem se_and {xs : List Expr} (hb : SB S W G (.BoolOp .And xs pos) (.and_ a b)) : SE S W G (.BoolOp .And xs pos) (.and_ a b) := SB.se (.inl ⟨_, _, rfl⟩) hb
theorem se_or {xs : List Expr} (hb : SB S W G (.BoolOp .Or xs pos) (.or_ a b)) : SE S W G (.BoolOp .Or xs pos) (.or_ a b) := SB.se (.inr ⟨_, _, rfl⟩) hb
def tIf3 (t u w : TT) : TT := fun σ H Q => t σ H fun c H1 => if c = true then u σ H1 Q else w σ H1 Q
theorem pt_ifE {t u w : TT} (hc : PT X z t) (ha : PT X x u) (hb : PT X y w) : PT X (.IfExp z x y pos) (tIf3 t u w) := by
  refine ⟨fun pins s σ H Q I h => ?_⟩
  refine isTrue_IfExp (thn (hc.run pins s σ H _ I h) fun d s1 ⟨H1, I1, q1⟩ => ?_)
  cases d with
  | true => exact ha.run pins s1 σ H1 Q I1 q1
  | false => exact hb.run pins s1 σ H1 Q I1 q1
theorem se_ite (hc : SE S W G z c) (ha : SE S W G x a) (hb : SE S W G y b) : SE S W G (.IfExp z x y pos) (.ite c a b) := fun X h => by
  have v : PE X (.IfExp z x y pos) (gV W G (.ite c a b)) := by
    refine PE.weak (pe_ifExp (hc X h).t (ha X h).v (hb X h).v) fun σ H Q q => ?_
    obtain ⟨F, r, s, d, s', S0, ee, k⟩ := q
    rw [ev] at ee
    obtain ⟨⟨p, s1⟩, e1, e2⟩ := Option.bind_eq_some_iff.mp ee
    refine ⟨F, r, s, p, s1, S0, e1, fun F1 H1 E1 T1 => ?_⟩
    cases p with
    | true => exact ⟨F1, r, s1, d, s', S0.ext E1 T1, e2, fun F2 v H' E2 T2 R2 => k F2 v H' (E1.trans E2) T2 R2⟩
    | false => exact ⟨F1, r, s1, d, s', S0.ext E1 T1, e2, fun F2 v H' E2 T2 R2 => k F2 v H' (E1.trans E2) T2 R2⟩
  refine ⟨v, PE.weak v fun σ H Q q => ?_, PT.weak (pt_ifE (hc X h).t (ha X h).t (hb X h).t) fun σ H Q q => ?_⟩
  · obtain ⟨F, r, s, d, s', S0, ee, k⟩ := q
    exact ⟨F, r, s, d, s', S0, by rw [ev] at ee ⊢; exact ee, fun F' v H' E1 T1 R1 => k F' v H' E1 T1 ((S0.pl.ext E1 T1).opd R1)⟩
  · obtain ⟨F, r, s, d, s', S0, ee, k⟩ := q
    rw [ev] at ee
    obtain ⟨⟨p, s1⟩, e1, e2⟩ := Option.bind_eq_some_iff.mp ee
    refine ⟨F, r, s, p, s1, S0, e1, fun F1 H1 E1 T1 => ?_⟩
    cases p with
    | true => exact ⟨F1, r, s1, d, s', S0.ext E1 T1, e2, fun F2 H' E2 T2 => k F2 H' (E1.trans E2) T2⟩
    | false => exact ⟨F1, r, s1, d, s', S0.ext E1 T1, e2, fun F2 H' E2 T2 => k F2 H' (E1.trans E2) T2⟩
end
end Ip

/-! IpG: comparisons, displays, calls, subscripts. -/
namespace Ip
open PySem PySem.Spec PyProof.Rows L2
section
variable {S : Sc} {W : Wd} {G : Gl} {X : Cx} {x y z : Expr} {a b c e : E} {pos : Pos}
/-- a value that is a bool -/
theorem own_bl {H : Hp} {F' : Addr → Prop} {H' : Hp} {k : Bool} : Own W H F' H' (.bl k) (.bl k) := by
  unfold Own
  rw [if_neg (by simp [isMut])]
  rfl
theorem SEx.of_FT (h : Std S W G X) (hm : Mk G e) (f : PE X x (gF W G e)) (t : PT X x (gT W G e)) : SEx X W G x e := by
  refine ⟨?_, ?_, t⟩
  · refine PE.weak f fun σ H Q q => ?_
    obtain ⟨F, r, s, d, s', S0, ee, k⟩ := q
    refine ⟨F, r, s, d, s', S0, ee, fun F' v H' E1 T1 O1 => ?_⟩
    obtain ⟨F2, E2, R2⟩ := Own.rep E1 O1
    exact k F2 v H' E2 T1 R2
  · refine PE.weak f fun σ H Q q => ?_
    obtain ⟨F, r, s, d, s', S0, ee, k⟩ := q
    obtain ⟨g, hg⟩ := hm r
    rw [hg] at ee
    exact ⟨F, r, s, d, s', S0, by rw [hg]; exact ee, fun F' v H' E1 T1 O1 => k F' v H' E1 T1 (Own.opd S0.pl (S0.pl.ext E1 T1) O1)⟩
theorem mk_cmp {o : Cp} : Mk G (.cmp o a b) := fun r => ⟨_, by rw [ev]⟩
theorem se_cmp (o : Cp) (ha : SE S W G x a) (hb : SE S W G y b) (hm : behindInMarks (cpOf o) y = false := by rfl) : SE S W G (.Compare x [cpOf o] [y] pos) (.cmp o a b) := fun X h => by
  refine SEx.of_FT h mk_cmp (PE.weak (pe_cmpR (op_cmp h.hK h.un o) (ha X h).o (hb X h).o hm) fun σ H Q q => ?_) (PT.weak (pt_cmpR (op_cmp h.hK h.un o) (ha X h).o (hb X h).o hm) fun σ H Q q => ?_)
  · obtain ⟨F, r, s, d, s', S0, ee, k⟩ := q
    rw [ev] at ee
    obtain ⟨p, e1, e2⟩ := Option.bind_eq_some_iff.mp ee
    obtain ⟨q, e3, e4⟩ := Option.bind_eq_some_iff.mp e2
    obtain ⟨c, e5, e6⟩ := Option.map_eq_some_iff.mp e4
    cases e6
    refine ⟨F, r, s, p.1, p.2, S0, e1, fun F1 v1 H1 E1 T1 O1 => ⟨F1, r, p.2, q.1, q.2, S0.ext E1 T1, e3, fun F2 v2 H2 E2 T2 O2 => ?_⟩⟩
    exact ⟨F2, p.1, q.1, c, E2.live, ((S0.pl.ext E1 T1).ext_opd E2 O1).1, O2.1, e5, k F2 _ H2 (E1.trans E2) T2 own_bl⟩
  · obtain ⟨F, r, s, d, s', S0, ee, k⟩ := q
    rw [ev] at ee
    obtain ⟨p0, e0, e00⟩ := Option.bind_eq_some_iff.mp ee
    obtain ⟨p, e1, e2⟩ := Option.bind_eq_some_iff.mp e0
    obtain ⟨q, e3, e4⟩ := Option.bind_eq_some_iff.mp e2
    obtain ⟨c, e5, e6⟩ := Option.map_eq_some_iff.mp e4
    cases e6
    cases e00
    refine ⟨F, r, s, p.1, p.2, S0, e1, fun F1 v1 H1 E1 T1 O1 => ⟨F1, r, p.2, q.1, q.2, S0.ext E1 T1, e3, fun F2 v2 H2 E2 T2 O2 => ?_⟩⟩
    exact ⟨F2, p.1, q.1, d, E2.live, ((S0.pl.ext E1 T1).ext_opd E2 O1).1, O2.1, e5, d, rfl, k F2 H2 (E1.trans E2) T2⟩
theorem mk_chain {o o' : Cp} : Mk G (.chain o o' a b c) := fun r => ⟨_, by rw [ev]⟩
theorem se_chain (o o' : Cp) (ha : SE S W G x a) (hb : SE S W G y b) (hc : SE S W G z c) (hm : lastMarks [cpOf o, cpOf o'] [y, z] = false := by with_unfolding_all rfl) : SE S W G (.Compare x [cpOf o, cpOf o'] [y, z] pos) (.chain o o' a b c) := fun X h => by
  refine SEx.of_FT h mk_chain (PE.weak (pe_chain (op_cmp h.hK h.un o) (op_cmp h.hK h.un o') (ha X h).o (hb X h).o (hc X h).o hm) fun σ H Q q => ?_) (PT.weak (pt_chain (op_cmp h.hK h.un o) (op_cmp h.hK h.un o') (ha X h).o (hb X h).o (hc X h).o hm) fun σ H Q q => ?_)
  · obtain ⟨F, r, s, d, s', S0, ee, k⟩ := q
    rw [ev] at ee
    obtain ⟨p, e1, e2⟩ := Option.bind_eq_some_iff.mp ee
    obtain ⟨q, e3, e4⟩ := Option.bind_eq_some_iff.mp e2
    obtain ⟨c1, e5, e6⟩ := Option.bind_eq_some_iff.mp e4
    refine ⟨F, r, s, p.1, p.2, S0, e1, fun F1 v1 H1 E1 T1 O1 => ⟨F1, r, p.2, q.1, q.2, S0.ext E1 T1, e3, fun F2 v2 H2 E2 T2 O2 => ?_⟩⟩
    have P2 := (S0.pl.ext E1 T1).ext E2 T2
    refine ⟨F2, p.1, q.1, c1, E2.live, ((S0.pl.ext E1 T1).ext_opd E2 O1).1, O2.1, e5, c1, rfl, ?_⟩
    cases c1 with
    | false => cases e6; exact k F2 _ H2 (E1.trans E2) T2 own_bl
    | true =>
      obtain ⟨u, e7, e8⟩ := Option.bind_eq_some_iff.mp e6
      obtain ⟨c2, e9, e10⟩ := Option.map_eq_some_iff.mp e8
      cases e10
      refine ⟨F2, r, q.2, u.1, u.2, (S0.ext E1 T1).ext E2 T2, e7, fun F3 v3 H3 E3 T3 O3 => ?_⟩
      exact ⟨F3, q.1, u.1, c2, E3.live, (P2.ext_opd E3 O2).1, O3.1, e9, k F3 _ H3 ((E1.trans E2).trans E3) T3 own_bl⟩
  · obtain ⟨F, r, s, d, s', S0, ee, k⟩ := q
    rw [ev] at ee
    obtain ⟨p0, e0, e00⟩ := Option.bind_eq_some_iff.mp ee
    obtain ⟨p, e1, e2⟩ := Option.bind_eq_some_iff.mp e0
    obtain ⟨q, e3, e4⟩ := Option.bind_eq_some_iff.mp e2
    obtain ⟨c1, e5, e6⟩ := Option.bind_eq_some_iff.mp e4
    refine ⟨F, r, s, p.1, p.2, S0, e1, fun F1 v1 H1 E1 T1 O1 => ⟨F1, r, p.2, q.1, q.2, S0.ext E1 T1, e3, fun F2 v2 H2 E2 T2 O2 => ?_⟩⟩
    have P2 := (S0.pl.ext E1 T1).ext E2 T2
    refine ⟨F2, p.1, q.1, c1, E2.live, ((S0.pl.ext E1 T1).ext_opd E2 O1).1, O2.1, e5, c1, rfl, ?_⟩
    cases c1 with
    | false => cases e6; cases e00; exact ⟨false, rfl, k F2 H2 (E1.trans E2) T2⟩
    | true =>
      obtain ⟨u, e7, e8⟩ := Option.bind_eq_some_iff.mp e6
      obtain ⟨c2, e9, e10⟩ := Option.map_eq_some_iff.mp e8
      cases e10
      cases e00
      refine ⟨F2, r, q.2, u.1, u.2, (S0.ext E1 T1).ext E2 T2, e7, fun F3 v3 H3 E3 T3 O3 => ?_⟩
      exact ⟨F3, q.1, u.1, d, E3.live, (P2.ext_opd E3 O2).1, O3.1, e9, d, rfl, k F3 H3 ((E1.trans E2).trans E3) T3⟩

/-! ### displays -/
theorem evs_len {r : Env} : ∀ {es : List E} {s : T} {ds : List D} {s' : T}, evs G es r s = some (ds, s') → ds.length = es.length
  | [], _, _, _, h => by rw [evs] at h; cases h; rfl
  | e :: es, _, _, _, h => by
    rw [evs] at h
    obtain ⟨p, e1, e2⟩ := Option.bind_eq_some_iff.mp h
    obtain ⟨c, e3, e4⟩ := Option.map_eq_some_iff.mp e2
    cases e4
    rw [List.length_cons, List.length_cons, evs_len (ds := c.1) (s' := c.2) e3]
theorem own_laid {F : Addr → Prop} {H : Hp} {s s' : T} {F1 : Addr → Prop} {H1 : Hp} {d : D} {v : V} {H2 : Hp} (P : Pl W F H s) (E1 : Ext W F H F1 H1) (T1 : Tp W s' H1) (n : New W F1 H1 d v H2) {Q : VK} (k : ∀ F' v H', Ext W F H F' H' → Tp W s' H' → Own W H F' H' d v → Q v H') : Q v H2 := by
  obtain ⟨F3, E3, T3, O3⟩ := New.own P E1 T1 n
  exact k F3 v H2 E3 T3 O3
theorem sf_tup {xs : List Expr} {es : List E} {k0 : Nat} (h1 : SA S W G xs es) (hl : es.length ≤ 1000 := by decide) : SF S W G (.Tuple xs k0 pos) (.tup es) := fun X h => by
  refine PE.weak (pe_tup (h1.v X h)) fun σ H Q q => ?_
  obtain ⟨F, r, s, d, s', S0, ee, k⟩ := q
  rw [ev] at ee
  obtain ⟨c, e3, e4⟩ := Option.map_eq_some_iff.mp ee
  cases e4
  refine ⟨F, r, s, c.1, c.2, S0, e3, fun F1 vs H1 E1 T1 R1 => ?_⟩
  have z : vs.length ≤ sizeLine := by rw [R1.length, evs_len (ds := c.1) (s' := c.2) e3]; exact Nat.le_of_lt (small1000 hl)
  exact ⟨z, fun p hp => own_laid S0.pl E1 T1 (New.tup E1.live hp z R1) k⟩
theorem sf_lst {xs : List Expr} {es : List E} (h1 : SA S W G xs es) (hl : es.length ≤ 1000 := by decide) : SF S W G (.List xs pos) (.lst es) := fun X h => by
  refine PE.weak (pe_lst (h1.v X h)) fun σ H Q q => ?_
  obtain ⟨F, r, s, d, s', S0, ee, k⟩ := q
  rw [ev] at ee
  obtain ⟨c, e3, e4⟩ := Option.map_eq_some_iff.mp ee
  cases e4
  refine ⟨F, r, s, c.1, c.2, S0, e3, fun F1 vs H1 E1 T1 R1 => ?_⟩
  have z : vs.length ≤ sizeLine := by rw [R1.length, evs_len (ds := c.1) (s' := c.2) e3]; exact Nat.le_of_lt (small1000 hl)
  exact ⟨z, fun p hp => own_laid S0.pl E1 T1 (New.lst E1.live hp z R1) k⟩
theorem mk_tup {es : List E} : Mk G (.tup es) := fun r => ⟨_, by rw [ev]⟩
theorem mk_lst {es : List E} : Mk G (.lst es) := fun r => ⟨_, by rw [ev]⟩
theorem se_tup {xs : List Expr} {es : List E} {k0 : Nat} (h1 : SA S W G xs es) (hl : es.length ≤ 1000 := by decide) : SE S W G (.Tuple xs k0 pos) (.tup es) := SF.se (fun _ _ => rfl) mk_tup (sf_tup h1 hl)
theorem se_lst {xs : List Expr} {es : List E} (h1 : SA S W G xs es) (hl : es.length ≤ 1000 := by decide) : SE S W G (.List xs pos) (.lst es) := SF.se (fun _ _ => rfl) mk_lst (sf_lst h1 hl)

/-! ### calls -/
theorem gl_of (h : Std S W G X) {n : Str} (hg : S.sc.names.lookup n = some .globalImplicit) : L2.Gl X n := by
  show X.env.scope.names.lookup n = _
  rw [h.hs]
  exact hg
theorem mk_call {i : Nat} {es : List E} : Mk G (.call i es) := fun r => ⟨_, by rw [ev]⟩
theorem se_call (i n : Nat) {m : Str} {p : Pos} {xs : List Expr} {es : List E} (hf : S.ft m = some (i, n)) (h1 : SA S W G (x :: xs) es) (hn : es.length = n := by rfl) (hg : S.sc.names.lookup m = some .globalImplicit := by rfl) (hdb : (m == ("__debug__" : Str)) = false := by decide) :
    SE S W G (.Call (.Name m p) (x :: xs) [] pos) (.call i es) := fun X h => by
  obtain ⟨k, f, fd, ps, F, hr, hm, hk, hb⟩ := h.cl m i n hf
  refine SEx.of_V (fun _ _ => rfl) h mk_call (PE.weak (pe_call F hr (gl_of h hg) hm hk hb .nil pass0 (h1.v X h) hdb (h1.head _) (h1.plain _ _)) fun σ H Q q => ?_)
  obtain ⟨F, r, s, d, s', S0, ee, k⟩ := q
  rw [ev] at ee
  obtain ⟨c, e3, e4⟩ := Option.bind_eq_some_iff.mp ee
  refine ⟨F, r, s, c.1, c.2, S0, e3, fun F1 vs H1 E1 T1 R1 => ?_⟩
  show spG _ _ _ _ _ _ (vs ++ []) _ _ _
  rw [List.append_nil]
  have z : vs.length = n := by rw [R1.length, evs_len (ds := c.1) (s' := c.2) e3]; exact hn
  exact ⟨W, F1, c.1, c.2, d, s', rfl, rfl, rfl, S0.pl.ext E1 T1, R1, z, e4, fun F2 v H2 E2 T2 R2 => k F2 v H2 (E1.trans E2) T2 R2⟩
theorem se_call0 (i : Nat) {m : Str} {p : Pos} (hf : S.ft m = some (i, 0)) (hg : S.sc.names.lookup m = some .globalImplicit := by rfl) (hdb : (m == ("__debug__" : Str)) = false := by decide) :
    SE S W G (.Call (.Name m p) [] [] pos) (.call i []) := fun X h => by
  obtain ⟨k, f, fd, ps, F, hr, hm, hk, hb⟩ := h.cl m i 0 hf
  refine SEx.of_V (fun _ _ => rfl) h mk_call (PE.weak (pe_call0 F hr (gl_of h hg) hm hk hb .nil pass0 hdb) fun σ H Q q => ?_)
  obtain ⟨F, r, s, d, s', S0, ee, k⟩ := q
  rw [ev] at ee
  have e4 : G.cl i [] s = some (d, s') := by
    obtain ⟨c, e3, e4⟩ := Option.bind_eq_some_iff.mp (show ((evs G [] r s).bind fun p => G.cl i p.1 p.2) = some (d, s') from ee)
    rw [evs] at e3
    cases e3
    exact e4
  exact ⟨W, F, [], s, d, s', rfl, rfl, rfl, S0.pl, rfl, rfl, e4, fun F2 v H2 E2 T2 R2 => k F2 v H2 E2 T2 R2⟩
def nmB (b : Bi) : Str := biNm b
def bltB : Bi → Bool
  | .int | .str | .list | .tuple => false
  | _ => true
theorem boot_bi : ∀ b : Bi, bootBuiltins (nmB b) = some (biVal b)
  | .len => by decide +kernel
  | .int => by decide +kernel
  | .str => by decide +kernel
  | .all => by decide +kernel
  | .any => by decide +kernel
  | .list => by decide +kernel
  | .tuple => by decide +kernel
  | .sorted => by decide +kernel
  | .sum => by decide +kernel
  | .max => by decide +kernel
  | .min => by decide +kernel
theorem nm_bi : ∀ b : Bi, nmB b ∈ btN ∧ nmB b ≠ "__name__" ∧ (nmB b == ("__debug__" : Str)) = false
  | .len => by decide +kernel
  | .int => by decide +kernel
  | .str => by decide +kernel
  | .all => by decide +kernel
  | .any => by decide +kernel
  | .list => by decide +kernel
  | .tuple => by decide +kernel
  | .sorted => by decide +kernel
  | .sum => by decide +kernel
  | .max => by decide +kernel
  | .min => by decide +kernel
theorem pe_bi (b : Bi) {p : Pos} {xs : List Expr} {r : List V → Hp → VK → Prop} {t : TA} (hc : CallR X (biVal b) r) (hg : L2.Gl X (nmB b)) (hm : X.mg (nmB b) = none) (ha : PA X (x :: xs) t) (he : starEach (x :: xs) X.env = (false, eval x X.env) :: starEach xs X.env) (hpl : (backTo pos (starEach xs X.env)).any (·.1) = false) :
    PE X (.Call (.Name (nmB b) p) (x :: xs) [] pos) (tCB r t) := by
  have h1 := boot_bi b
  obtain ⟨_, h2, h3⟩ := nm_bi b
  cases b with
  | int => exact pe_callTy hc hg hm h1 ha h2 h3 he hpl
  | str => exact pe_callTy hc hg hm h1 ha h2 h3 he hpl
  | list => exact pe_callTy hc hg hm h1 ha h2 h3 he hpl
  | tuple => exact pe_callTy hc hg hm h1 ha h2 h3 he hpl
  | _ => exact pe_callB hc hg hm h1 ha h2 h3 he hpl
theorem mk_bi {b : Bi} {es : List E} : Mk G (.bi b es) := fun r => ⟨_, by rw [ev]⟩
theorem sf_bi (b : Bi) {m : Str} {p : Pos} {xs : List Expr} {es : List E} (h1 : SA S W G (x :: xs) es) (hm : m = nmB b := by rfl) (hg : S.sc.names.lookup m = some .globalImplicit := by rfl) :
    SF S W G (.Call (.Name m p) (x :: xs) [] pos) (.bi b es) := fun X h => by
  subst hm
  refine PE.weak (pe_bi b (cr_bi h.hK h.calm h.un b) (gl_of h hg) (h.bt _ (nm_bi b).1) (h1.o X h) (h1.head _) (h1.plain _ _)) fun σ H Q q => ?_
  obtain ⟨F, r, s, d, s', S0, ee, k⟩ := q
  rw [ev] at ee
  obtain ⟨c, e3, e4⟩ := Option.bind_eq_some_iff.mp ee
  obtain ⟨d', e5, e6⟩ := Option.map_eq_some_iff.mp e4
  cases e6
  exact ⟨F, r, s, c.1, c.2, S0, e3, fun F1 vs H1 E1 T1 R1 => ⟨F1, c.1, d, E1.live, R1.top, e5, fun v H' n => own_laid S0.pl E1 T1 n k⟩⟩
theorem se_bi (b : Bi) {m : Str} {p : Pos} {xs : List Expr} {es : List E} (h1 : SA S W G (x :: xs) es) (hm : m = nmB b := by rfl) (hg : S.sc.names.lookup m = some .globalImplicit := by rfl) :
    SE S W G (.Call (.Name m p) (x :: xs) [] pos) (.bi b es) := SF.se (fun _ _ => rfl) mk_bi (sf_bi b h1 hm hg)
def nmT (t : Ty) : Str := tyNm t
theorem boot_ty : ∀ t : Ty, bootBuiltins (nmT t) = some (.type (tyNm t)) ∧ nmT t ∈ btN ∧ nmT t ≠ "__name__" ∧ (nmT t == ("__debug__" : Str)) = false
  | .int => by decide +kernel
  | .bool => by decide +kernel
  | .str => by decide +kernel
  | .tuple => by decide +kernel
  | .list => by decide +kernel
theorem mk_isi {t : Ty} : Mk G (.isi t a) := fun r => ⟨_, by rw [ev]⟩
theorem se_isi (t : Ty) {m i : Str} {p q : Pos} (ha : SE S W G x a) (hs : ∀ env, starEach [x, .Name m q] env = (false, eval x env) :: starEach [.Name m q] env := by intro _; rfl) (hm : m = nmT t := by rfl) (hi : i = "isinstance" := by rfl) (hg : S.sc.names.lookup m = some .globalImplicit := by rfl) (hg' : S.sc.names.lookup i = some .globalImplicit := by rfl) :
    SE S W G (.Call (.Name i p) [x, .Name m q] [] pos) (.isi t a) := SF.se (fun _ _ => rfl) mk_isi fun X h => by
  subst hm
  subst hi
  obtain ⟨b1, b2, b3, b4⟩ := boot_ty t
  have pt : PE X (.Name (nmT t) q) (tC (.ty (tyNm t))) := pe_bltn (gl_of h hg) (h.bt _ b2) b1 rfl b3 b4
  refine PE.weak (pe_callB (cr_isi h.hK t) (gl_of h hg') (h.bt _ (by decide +kernel)) boot_isinstance (pa_cons (ha X h).o (pa_cons pt pa_nil rfl) (hs _)) (by decide +kernel) (by decide +kernel) (hs _) rfl) fun σ H Q q => ?_
  obtain ⟨F, r, s, d, s', S0, ee, k⟩ := q
  rw [ev] at ee
  obtain ⟨c, e3, e4⟩ := Option.bind_eq_some_iff.mp ee
  obtain ⟨d', e5, e6⟩ := Option.map_eq_some_iff.mp e4
  cases e6
  exact ⟨F, r, s, c.1, c.2, S0, e3, fun F1 v H1 E1 T1 O1 => ⟨F1, c.1, v, d', E1.live, rfl, O1.1, e5, k F1 _ H1 E1 T1 own_bl⟩⟩

/-! ### subscripts, slices -/
theorem mk_sub : Mk G (.sub a b) := fun r => ⟨_, by rw [ev]⟩
theorem se_sub (ha : SE S W G x a) (hb : SE S W G y b) (hs : PlainIx y := by intro _ _; rfl) : SE S W G (.Subscript x y pos) (.sub a b) := fun X h => by
  refine SEx.of_V (fun _ _ => rfl) h mk_sub (PE.weak (pe_ix (ix_sub h.hK) (ha X h).o (hb X h).o hs) fun σ H Q q => ?_)
  obtain ⟨F, r, s, d, s', S0, ee, k⟩ := q
  rw [ev] at ee
  obtain ⟨p, e1, e2⟩ := Option.bind_eq_some_iff.mp ee
  obtain ⟨q, e3, e4⟩ := Option.bind_eq_some_iff.mp e2
  obtain ⟨c, e5, e6⟩ := Option.map_eq_some_iff.mp e4
  cases e6
  refine ⟨F, r, s, p.1, p.2, S0, e1, fun F1 v1 H1 E1 T1 O1 => ⟨F1, r, p.2, q.1, q.2, S0.ext E1 T1, e3, fun F2 v2 H2 E2 T2 O2 => ?_⟩⟩
  exact ⟨F2, p.1, q.1, d, E2.live, ((S0.pl.ext E1 T1).ext_opd E2 O1).1, O2.1, e5, fun v R => k F2 v H2 (E1.trans E2) T2 R⟩
theorem so_none : SO S W G none none := fun X h => PO.weak po_none fun σ H Q q => by
  obtain ⟨F, r, s, d, s', S0, ee, k⟩ := q
  rw [evo?] at ee
  cases ee
  exact k F H (Ext.refl S0.f2) S0.tape
theorem so_some (ha : SE S W G x a) : SO S W G (some x) (some a) := fun X h => PO.weak (po_some (ha X h).o) fun σ H Q q => by
  obtain ⟨F, r, s, d, s', S0, ee, k⟩ := q
  rw [evo?] at ee
  obtain ⟨p, e1, e2⟩ := Option.map_eq_some_iff.mp ee
  cases e2
  exact ⟨F, r, s, .int p.1, p.2, S0, intO_some e1, fun F1 v1 H1 E1 T1 O1 => ⟨p.1, O1.1.int, k F1 H1 E1 T1⟩⟩
theorem mk_sli {lo hi : Option E} : Mk G (.sli a lo hi) := fun r => ⟨_, by rw [ev]⟩
theorem sf_sli {l u : Option Expr} {lo hi : Option E} {p2 : Pos} (ha : SE S W G x a) (hl : SO S W G l lo) (hu : SO S W G u hi) : SF S W G (.Subscript x (.Slice l u none p2) pos) (.sli a lo hi) := fun X h => by
  refine PE.weak (pe_slice (sl_cut h.hK) (ha X h).o (hl X h) (hu X h)) fun σ H Q q => ?_
  obtain ⟨F, r, s, d, s', S0, ee, k⟩ := q
  rw [ev] at ee
  obtain ⟨p, e1, e2⟩ := Option.bind_eq_some_iff.mp ee
  obtain ⟨l1, e3, e4⟩ := Option.bind_eq_some_iff.mp e2
  obtain ⟨u1, e5, e6⟩ := Option.bind_eq_some_iff.mp e4
  obtain ⟨c, e7, e8⟩ := Option.map_eq_some_iff.mp e6
  cases e8
  refine ⟨F, r, s, p.1, p.2, S0, e1, fun F1 v1 H1 E1 T1 O1 => ⟨F1, r, p.2, l1.1, l1.2, S0.ext E1 T1, e3, fun F2 H2 E2 T2 => ⟨F2, r, l1.2, u1.1, u1.2, (S0.ext E1 T1).ext E2 T2, e5, fun F3 H3 E3 T3 => ?_⟩⟩⟩
  exact ⟨F3, p.1, d, E3.live, ((S0.pl.ext E1 T1).ext_opd (E2.trans E3) O1).1, e7, fun v H' n => own_laid S0.pl ((E1.trans E2).trans E3) T3 n k⟩
theorem se_sli {l u : Option Expr} {lo hi : Option E} {p2 : Pos} (ha : SE S W G x a) (hl : SO S W G l lo) (hu : SO S W G u hi) : SE S W G (.Subscript x (.Slice l u none p2) pos) (.sli a lo hi) := SF.se (fun _ _ => rfl) mk_sli (sf_sli ha hl hu)
theorem mk_rev : Mk G (.rev a) := fun r => ⟨_, by rw [ev]⟩
theorem sf_rev {k0 : Nat} {p1 p2 p3 : Pos} (ha : SE S W G x a) : SF S W G (.Subscript x (.Slice none none (some (.UnaryOp .USub (.Constant (.int 1) k0 p1) p2)) p3) pos) (.rev a) := fun X h => by
  refine PE.weak (pe_rev h.hK (ha X h).o) fun σ H Q q => ?_
  obtain ⟨F, r, s, d, s', S0, ee, k⟩ := q
  rw [ev] at ee
  obtain ⟨p, e1, e2⟩ := Option.bind_eq_some_iff.mp ee
  split at e2
  · cases e2
  · rename_i hn
    obtain ⟨c, e7, e8⟩ := Option.map_eq_some_iff.mp e2
    cases e8
    exact ⟨F, r, s, p.1, p.2, S0, e1, fun F1 v1 H1 E1 T1 O1 => ⟨F1, p.1, d, E1.live, O1.1, by simpa using hn, e7, fun v H' n => own_laid S0.pl E1 T1 n k⟩⟩
theorem se_rev {k0 : Nat} {p1 p2 p3 : Pos} (ha : SE S W G x a) : SE S W G (.Subscript x (.Slice none none (some (.UnaryOp .USub (.Constant (.int 1) k0 p1) p2)) p3) pos) (.rev a) := SF.se (fun _ _ => rfl) mk_rev (sf_rev ha)
end
end Ip

/-! IpH: what a loop walks, targets, list comprehensions. -/
namespace Ip
open PySem PySem.Spec PyProof.Rows L2

/-! ### slots: setting, wiping -/
theorem get_wipe : ∀ (vs : List Nat) (σ : L2.St) (i : Nat), (wipe σ vs)[i]? = if i ∈ vs then (σ[i]?).map (fun _ => none) else σ[i]?
  | [], σ, i => by simp [wipe]
  | v :: vs, σ, i => by
    unfold wipe
    rw [List.getElem?_set, get_wipe vs σ i]
    by_cases h : v = i
    · subst h
      rw [if_pos rfl, if_pos List.mem_cons_self, wipe_length]
      by_cases hl : v < σ.length
      · rw [if_pos hl]; simp [hl]
      · rw [if_neg hl]; simp [hl]
    · rw [if_neg h]
      by_cases h2 : i ∈ vs
      · rw [if_pos h2, if_pos (List.mem_cons_of_mem _ h2)]
      · rw [if_neg h2, if_neg (by simp; exact ⟨fun e => h e.symm, h2⟩)]
theorem wipeE_len : ∀ (vs : List Nat) (r : Env), (wipeE r vs).length = r.length
  | [], _ => rfl
  | v :: vs, r => by unfold wipeE; rw [List.length_set, wipeE_len vs r]
theorem get_wipeE : ∀ (vs : List Nat) (r : Env) (i : Nat), (wipeE r vs)[i]? = if i ∈ vs then (r[i]?).map (fun _ => none) else r[i]?
  | [], r, i => by simp [wipeE]
  | v :: vs, r, i => by
    unfold wipeE
    rw [List.getElem?_set, get_wipeE vs r i]
    by_cases h : v = i
    · subst h
      rw [if_pos rfl, if_pos List.mem_cons_self, wipeE_len]
      by_cases hl : v < r.length
      · rw [if_pos hl]; simp [hl]
      · rw [if_neg hl]; simp [hl]
    · rw [if_neg h]
      by_cases h2 : i ∈ vs
      · rw [if_pos h2, if_pos (List.mem_cons_of_mem _ h2)]
      · rw [if_neg h2, if_neg (by simp; exact ⟨fun e => h e.symm, h2⟩)]
theorem wipe_eq {vs : List Nat} {σ σ' : L2.St} (hl : σ'.length = σ.length) (h : ∀ i, i ∉ vs → σ'[i]? = σ[i]?) : wipe σ' vs = wipe σ vs := by
  apply List.ext_getElem?
  intro i
  rw [get_wipe, get_wipe]
  by_cases hi : i ∈ vs
  · rw [if_pos hi, if_pos hi]
    by_cases hz : i < σ.length
    · rw [List.getElem?_eq_getElem hz, List.getElem?_eq_getElem (by omega)]; rfl
    · rw [List.getElem?_eq_none (by omega), List.getElem?_eq_none (by omega)]
  · rw [if_neg hi, if_neg hi, h i hi]
theorem set_some {α : Type} {l : List α} {i j : Nat} {x y : α} (h : (l.set i x)[j]? = some y) : (j = i ∧ y = x ∧ i < l.length) ∨ (j ≠ i ∧ l[j]? = some y) := by
  rw [List.getElem?_set] at h
  by_cases e : i = j
  · rw [if_pos e] at h
    split at h
    · cases h; exact .inl ⟨e.symm, rfl, by assumption⟩
    · cases h
  · rw [if_neg e] at h
    exact .inr ⟨fun q => e q.symm, h⟩
theorem set_at {α : Type} {l : List α} {i : Nat} {x : α} (h : i < l.length) : (l.set i x)[i]? = some x := by
  rw [List.getElem?_set, if_pos rfl, if_pos h]
theorem set_off {α : Type} {l : List α} {i j : Nat} {x : α} (h : j ≠ i) : (l.set i x)[j]? = l[j]? := by
  rw [List.getElem?_set, if_neg (fun e => h e.symm)]
section
variable {W : Wd} {F F' : Addr → Prop} {H H' : Hp} {r : Env} {s s' : T} {σ : L2.St}
theorem Sim.wiped (S : Sim W F r s σ H) (vs : List Nat) : Sim W F (wipeE r vs) s (wipe σ vs) H where
  len := by rw [wipeE_len, wipe_length]; exact S.len
  val := fun i d h => by
    rw [get_wipeE] at h
    split at h
    · cases q : r[i]? <;> rw [q] at h <;> cases h
    · rename_i hi
      rw [get_wipe, if_neg hi]
      exact S.val i d h
  own := fun i d h => by
    rw [get_wipeE] at h
    split at h
    · cases q : r[i]? <;> rw [q] at h <;> cases h
    · rename_i hi
      rw [get_wipe, if_neg hi]
      exact S.own i d h
  dis := fun i j d d' a hij h1 h2 h3 h4 => by
    rw [get_wipeE] at h1 h2
    split at h1
    · cases q : r[i]? <;> rw [q] at h1 <;> cases h1
    · rename_i hi
      split at h2
      · cases q : r[j]? <;> rw [q] at h2 <;> cases h2
      · rename_i hj
        rw [get_wipe, if_neg hi] at h3
        rw [get_wipe, if_neg hj] at h4
        exact S.dis i j d d' a hij h1 h2 h3 h4
  old := S.old
  f0 := S.f0
  f1 := S.f1
  f2 := S.f2
  f3 := S.f3
  tape := S.tape
theorem Sim.setv (S : Sim W F r s σ H) (i : Nat) {d : D} {v : V} (h : Rep W F H d v) : Sim W F (r.set i (some (false, d))) s (σ.set i (some v)) H where
  len := by rw [List.length_set, List.length_set]; exact S.len
  val := fun j d' q => by
    rcases set_some q with ⟨rfl, e, hl⟩ | ⟨ne, q⟩
    · cases e
      exact ⟨v, set_at (by rw [← S.len]; exact hl), h⟩
    · rw [set_off ne]
      exact S.val j d' q
  own := fun j d' q => by
    rcases set_some q with ⟨_, e, _⟩ | ⟨ne, q⟩
    · cases e
    · rw [set_off ne]
      exact S.own j d' q
  dis := fun j k d1 d2 a hjk h1 h2 h3 h4 => by
    rcases set_some h1 with ⟨_, e, _⟩ | ⟨ne, h1⟩
    · cases e
    · rcases set_some h2 with ⟨_, e, _⟩ | ⟨ne', h2⟩
      · cases e
      · rw [set_off ne] at h3
        rw [set_off ne'] at h4
        exact S.dis j k d1 d2 a hjk h1 h2 h3 h4
  old := S.old
  f0 := S.f0
  f1 := S.f1
  f2 := S.f2
  f3 := S.f3
  tape := S.tape
theorem Sim.newH0 (S : Sim W F r s σ H) {a : Addr} (h : H a = none) : W.H0 a = none ∧ a ≠ W.ba ∧ a ≠ W.ca := by
  have n1 : a ≠ W.ba := fun e => S.tape.ba_some (e ▸ h)
  have n2 : a ≠ W.ca := fun e => S.tape.ca_some (e ▸ h)
  refine ⟨?_, n1, n2⟩
  cases q : W.H0 a with
  | none => rfl
  | some o => rw [S.old a o q n1 n2] at h; cases h
/-- a made thing is put into a slot as one's own -/
theorem Sim.seto (S : Sim W F r s σ H) (E1 : Ext W F H F' H') (t : Tp W s' H') (i : Nat) {d : D} {v : V} (h : Own W H F' H' d v) : Sim W F' (setO r i true d) s' (σ.set i (some v)) H' := by
  have S1 := S.ext E1 t
  unfold setO
  unfold Own at h
  by_cases m : isMut d = true
  · rw [if_pos m] at h
    obtain ⟨a, rfl, h0, nf, hn, tp⟩ := h
    obtain ⟨z0, z1, z2⟩ := S.newH0 h0
    have oth : ∀ (j : Nat) (d' : D) (b : Addr), r[j]? = some (some (true, d')) → σ[j]? = some (some (.ref b)) → b ≠ a := by
      intro j d' b q e
      obtain ⟨b', e', _, _, _, hn', _⟩ := S.own j d' q
      rw [e] at e'
      cases e'
      exact fun z => hn' (z ▸ h0)
    have e0 : (true && isMut d) = true := by simpa using m
    rw [e0]
    exact {
      len := by rw [List.length_set, List.length_set]; exact S.len
      val := fun j d' q => by
        rcases set_some q with ⟨_, e, _⟩ | ⟨ne, q⟩
        · cases e
        · rw [set_off ne]
          exact S1.val j d' q
      own := fun j d' q => by
        rcases set_some q with ⟨rfl, e, hl⟩ | ⟨ne, q⟩
        · cases e
          exact ⟨a, set_at (by rw [← S.len]; exact hl), tp, nf, z0, hn, z1, z2⟩
        · rw [set_off ne]
          exact S1.own j d' q
      dis := fun j k d1 d2 b hjk h1 h2 h3 h4 => by
        rcases set_some h1 with ⟨rfl, e, hl⟩ | ⟨ne, q1⟩
        · rcases set_some h2 with ⟨e2, _, _⟩ | ⟨ne', q2⟩
          · exact hjk e2.symm
          · rw [set_off ne'] at h4
            rw [set_at (by rw [← S.len]; exact hl)] at h3
            cases h3
            exact oth k d2 a q2 h4 rfl
        · rcases set_some h2 with ⟨rfl, e, hl⟩ | ⟨ne', q2⟩
          · rw [set_off ne] at h3
            rw [set_at (by rw [← S.len]; exact hl)] at h4
            cases h4
            exact oth j d1 a q1 h3 rfl
          · rw [set_off ne] at h3
            rw [set_off ne'] at h4
            exact S1.dis j k d1 d2 b hjk q1 q2 h3 h4
      old := S1.old
      f0 := S1.f0
      f1 := S1.f1
      f2 := S1.f2
      f3 := S1.f3
      tape := S1.tape }
  · rw [if_neg m] at h
    have e : (true && isMut d) = false := by simpa using m
    rw [e]
    exact S1.setv i h
end

/-! ### what a loop walks -/
def Yl (W : Wd) (F : Addr → Prop) (H : Hp) (d : D) (x : V) (H2 : Hp) : Prop := (H2 = H ∧ Rep W F H d x) ∨ (∃ a o, x = .ref a ∧ H a = none ∧ H2 = upd H a o ∧ Fre W F H2 d a)
structure Wlk (W : Wd) (F : Addr → Prop) (H : Hp) (J : It) (xs : List D) (L : List Addr) : Prop where
  ne : ∀ a ∈ L, a ≠ W.ba ∧ a ≠ W.ca ∧ H a ≠ none
  sz : xs.length ≤ sizeLine
  w : Walk J xs.length (fun H2 => ∀ a ∈ L, H2 a = H a) (fun i H1 x H2 => ∀ d, xs[i]? = some d → ∀ F2, (∀ a, F a → F2 a) → (∀ a, F a → H1 a = H a) → Fok F2 H1 → Yl W F2 H1 d x H2)
section
variable {W : Wd} {F F' F2 : Addr → Prop} {H H' H2 : Hp} {s s' : T}
theorem Yl.rep {d : D} {x : V} (P : Pl W F H s) (h : Yl W F H d x H2) : ∃ F2, Ext W F H F2 H2 ∧ Tp W s H2 ∧ Rep W F2 H2 d x := by
  rcases h with ⟨rfl, h⟩ | ⟨a, o, rfl, ha, rfl, fr⟩
  · exact ⟨F, Ext.refl P.f2, P.tape, h⟩
  · exact ⟨_, (Ext.laid P.f2 ha).freeze ha (by rw [upd_same]; simp), P.tape.laid ha, fr.freeze⟩
theorem its_vals {J : It} {ds : List D} {vs : List V} {L : List Addr} (ne : ∀ a ∈ L, a ≠ W.ba ∧ a ≠ W.ca ∧ H a ≠ none) (hz : vs.length ≤ sizeLine) (R : RepL W F H ds vs) (w : Walk J vs.length (fun H2 => ∀ a ∈ L, H2 a = H a) (YAt vs)) : Wlk W F H J ds L := by
  refine ⟨ne, by rw [← R.length]; exact hz, ?_⟩
  rw [← R.length]
  refine w.mono (fun _ h => h) fun i H1 x H2 hi hg y d hd F2 hF hH _ => ?_
  obtain ⟨rfl, e⟩ := y
  obtain ⟨v', e', r'⟩ := R.get hd
  rw [e] at e'
  cases e'
  exact .inl ⟨rfl, Rep.mono hF hH d x r'⟩
theorem its_lst {a : Addr} {ds : List D} {vs : List V} (hz : vs.length ≤ sizeLine) (q : H a = some (.lst vs)) (R : RepL W F H ds vs) (n : a ≠ W.ba ∧ a ≠ W.ca) : Wlk W F H (Itl W.K a) ds [a] :=
  its_vals (by
    intro b hb
    simp only [List.mem_singleton] at hb
    subst hb
    exact ⟨n.1, n.2, by rw [q]; simp⟩) hz R ((walk_list (K := W.K) (a := a) (xs := vs)).mono (fun H2 h => SqL.of ((h a List.mem_cons_self).trans q)) fun _ _ _ _ _ _ y => y)
/-- the heap's part in a tuple's standing -/
def tpL (H : Hp) (a : Addr) : List Addr := match H a with
  | some _ => [a]
  | none => []
theorem tup_L {a : Addr} {vs : List V} (P : Pl W F H s) (q : (F a ∧ H a = some (.tup vs)) ∨ KTup W.K a vs) : ∃ L : List Addr, (∀ b ∈ L, F b ∧ b ≠ W.ba ∧ b ≠ W.ca ∧ H b ≠ none) ∧ ∀ H2 : Hp, (∀ b ∈ L, H2 b = H b) → SqT W.K H2 a vs := by
  rcases q with ⟨f, q⟩ | q
  · refine ⟨[a], ?_, fun H2 h => SqT.of ((h a List.mem_cons_self).trans q)⟩
    intro b hb
    simp only [List.mem_singleton] at hb
    subst hb
    exact ⟨f, fun e => P.f3.1 (e ▸ f), fun e => P.f3.2 (e ▸ f), by rw [q]; simp⟩
  · exact ⟨[], by simp, fun H2 _ => .inr q⟩
theorem its_tup {a : Addr} {ds : List D} {vs : List V} (P : Pl W F H s) (hz : vs.length ≤ sizeLine) (q : (F a ∧ H a = some (.tup vs)) ∨ KTup W.K a vs) (R : RepL W F H ds vs) : ∃ L, Wlk W F H (Itt W.K a) ds L ∧ ∀ b ∈ L, F b := by
  obtain ⟨L, hL, hs⟩ := tup_L P q
  exact ⟨L, its_vals (fun b hb => (hL b hb).2) hz R ((walk_tup (K := W.K) (a := a) (xs := vs)).mono (fun H2 h => hs H2 h) fun _ _ _ _ _ _ y => y), fun b hb => (hL b hb).1⟩
theorem its_rng {lo : Int} {n : Nat} (hz : n ≤ sizeLine) : Wlk W F H (Itr lo n) (rngL lo n) [] := by
  have hl : (rngL lo n).length = n := by unfold rngL; rw [List.length_map, List.length_range]
  refine ⟨by simp, by rw [hl]; exact hz, ?_⟩
  rw [hl]
  refine (walk_range (lo := lo) (n := n)).mono (fun _ _ => trivial) fun i H1 x H2 hi hg y d hd F2 hF hH _ => ?_
  obtain ⟨rfl, rfl⟩ := y
  unfold rngL at hd
  rw [List.getElem?_map, List.getElem?_range hi] at hd
  cases hd
  exact .inl ⟨rfl, rfl⟩
theorem its_rngC {lo c : Int} {n : Nat} (hz : n ≤ sizeLine) : Wlk W F H (Itc lo c n) (rngCL lo c n) [] := by
  have hl : (rngCL lo c n).length = n := by unfold rngCL; rw [List.length_map, List.length_range]
  refine ⟨by simp, by rw [hl]; exact hz, ?_⟩
  rw [hl]
  refine (walk_rangeC (lo := lo) (c := c) (n := n)).mono (fun _ _ => trivial) fun i H1 x H2 hi hg y d hd F2 hF hH _ => ?_
  obtain ⟨rfl, rfl⟩ := y
  unfold rngCL at hd
  rw [List.getElem?_map, List.getElem?_range hi] at hd
  cases hd
  exact .inl ⟨rfl, rfl⟩
theorem its_str {t : List Nat} (hz : t.length ≤ sizeLine) : Wlk W F H (Its ⟨t.toArray⟩) (t.map fun c => .str [c]) [] := by
  have hl : (t.map fun c => D.str [c]).length = (⟨t.toArray⟩ : Str).cps.size := by rw [List.length_map]; simp
  refine ⟨by simp, by rw [List.length_map]; exact hz, ?_⟩
  rw [hl]
  refine (walk_str (z := ⟨t.toArray⟩)).mono (fun _ _ => trivial) fun i H1 x H2 hi hg y d hd F2 hF hH _ => ?_
  obtain ⟨rfl, c, hc, rfl⟩ := y
  rw [List.getElem?_map] at hd
  have hc' : t[i]? = some c := by simpa using hc
  rw [hc'] at hd
  cases hd
  refine .inl ⟨rfl, ?_⟩
  simp only [Rep]
end
end Ip

/-! IpI: iterables, targets, list comprehensions: the rules. -/
namespace Ip
open PySem PySem.Spec PyProof.Rows L2
def iO (W : Wd) (G : Gl) (k : Ik) (es : List E) : TI := fun σ H R => ∃ F r s ds s' xs, Sim W F r s σ H ∧ evos G es r s = some (ds, s') ∧ itD k ds = some xs ∧ ∀ F' H' J L, Ext W F H F' H' → Tp W s' H' → Wlk W F' H' J xs L → R J H'
def iV (W : Wd) (G : Gl) (k : Ik) (es : List E) : TI := fun σ H R => ∃ F r s ds s' xs, Sim W F r s σ H ∧ evs G es r s = some (ds, s') ∧ itD k ds = some xs ∧ ∀ F' H' J L, Ext W F H F' H' → Tp W s' H' → Wlk W F' H' J xs L → (∀ a ∈ L, F' a) → R J H'
structure SIx (X : Cx) (W : Wd) (G : Gl) (tg x : Expr) (k : Ik) (es : List E) : Prop where
  o : PI X tg x (iO W G k es)
  v : PI X tg x (iV W G k es)
def SI (S : Sc) (W : Wd) (G : Gl) (tg x : Expr) (k : Ik) (es : List E) : Prop := ∀ X, Std S W G X → SIx X W G tg x k es
section
variable {S : Sc} {W : Wd} {G : Gl} {X : Cx} {x y z tg : Expr} {a b c e : E} {pos : Pos}
theorem evos_one {r : Env} {s : T} {ds : List D} {s' : T} (h : evos G [a] r s = some (ds, s')) : ∃ d, ds = [d] ∧ (ev G a r).o s = some (d, s') := by
  rw [evos] at h
  obtain ⟨p, e1, e2⟩ := Option.bind_eq_some_iff.mp h
  obtain ⟨q, e3, e4⟩ := Option.map_eq_some_iff.mp e2
  rw [evos] at e3
  cases e3
  cases e4
  exact ⟨p.1, rfl, e1⟩
theorem evs_one {r : Env} {s : T} {ds : List D} {s' : T} (h : evs G [a] r s = some (ds, s')) : ∃ d, ds = [d] ∧ (ev G a r).v s = some (d, s') := by
  rw [evs] at h
  obtain ⟨p, e1, e2⟩ := Option.bind_eq_some_iff.mp h
  obtain ⟨q, e3, e4⟩ := Option.map_eq_some_iff.mp e2
  rw [evs] at e3
  cases e3
  cases e4
  exact ⟨p.1, rfl, e1⟩
theorem rep_lst {F : Addr → Prop} {H : Hp} {ds : List D} {v : V} (h : Rep W F H (.lst ds) v) : ∃ a vs, v = .ref a ∧ vs.length ≤ sizeLine ∧ F a ∧ H a = some (.lst vs) ∧ RepL W F H ds vs := by
  simp only [Rep] at h
  obtain ⟨a, vs, e, z, ⟨f, q⟩, r⟩ := h
  exact ⟨a, vs, e, z, f, q, r⟩
/-- one thing: a list, a tuple, a text -/
theorem si_seq (ha : SE S W G x a) : SI S W G tg x .seq [a] := fun X h => by
  refine ⟨⟨fun pins s σ H R I q => ?_⟩, ⟨fun pins s σ H R I q => ?_⟩⟩
  · obtain ⟨F, r, s0, ds, s', xs, S0, ee, ei, k⟩ := q
    obtain ⟨d, rfl, e1⟩ := evos_one ee
    cases d with
    | str t =>
      simp only [itD] at ei
      split at ei
      · rename_i hz
        cases ei
        refine (pi_str (tg := tg) (ha X h).o).run pins s σ H R I ⟨F, r, s0, _, s', S0, e1, fun F' v H' E1 T1 O1 => ⟨_, O1.1.str, k F' H' _ [] E1 T1 (its_str (szL_eq ▸ hz))⟩⟩
      · cases ei
    | lst ys =>
      cases ei
      refine (pi_list (tg := tg) (ha X h).o).run pins s σ H R I ⟨F, r, s0, _, s', S0, e1, fun F' v H' E1 T1 O1 => ?_⟩
      obtain ⟨p, vs, rfl, z, q, rl⟩ := O1.1.lst
      exact ⟨p, rfl, ⟨vs, SqL.of q⟩, h.hK ▸ k F' H' _ [p] E1 T1 (its_lst z q rl (O1.2 p rfl ⟨_, rfl⟩))⟩
    | tup ys =>
      cases ei
      refine (pi_tup (tg := tg) (ha X h).o).run pins s σ H R I ⟨F, r, s0, _, s', S0, e1, fun F' v H' E1 T1 O1 => ?_⟩
      obtain ⟨p, vs, rfl, z, q, rl⟩ := O1.1.tup
      obtain ⟨L, hw, _⟩ := its_tup (S0.pl.ext E1 T1) z q rl
      exact ⟨p, rfl, ⟨vs, h.hK ▸ tup_sq q⟩, h.hK ▸ k F' H' _ L E1 T1 hw⟩
    | _ => cases ei
  · obtain ⟨F, r, s0, ds, s', xs, S0, ee, ei, k⟩ := q
    obtain ⟨d, rfl, e1⟩ := evs_one ee
    cases d with
    | str t =>
      simp only [itD] at ei
      split at ei
      · rename_i hz
        cases ei
        refine (pi_str (tg := tg) (ha X h).v).run pins s σ H R I ⟨F, r, s0, _, s', S0, e1, fun F' v H' E1 T1 O1 => ⟨_, O1.top.str, k F' H' _ [] E1 T1 (its_str (szL_eq ▸ hz)) (by simp)⟩⟩
      · cases ei
    | lst ys =>
      cases ei
      refine (pi_list (tg := tg) (ha X h).v).run pins s σ H R I ⟨F, r, s0, _, s', S0, e1, fun F' v H' E1 T1 O1 => ?_⟩
      obtain ⟨p, vs, rfl, z, f, q, rl⟩ := rep_lst O1
      exact ⟨p, rfl, ⟨vs, SqL.of q⟩, h.hK ▸ k F' H' _ [p] E1 T1 (its_lst z q rl (((S0.pl.ext E1 T1).opd O1).2 p rfl ⟨_, rfl⟩)) (by simpa using f)⟩
    | tup ys =>
      cases ei
      refine (pi_tup (tg := tg) (ha X h).v).run pins s σ H R I ⟨F, r, s0, _, s', S0, e1, fun F' v H' E1 T1 O1 => ?_⟩
      obtain ⟨p, vs, rfl, z, q, rl⟩ := O1.top.tup
      obtain ⟨L, hw, hf⟩ := its_tup (S0.pl.ext E1 T1) z q rl
      exact ⟨p, rfl, ⟨vs, h.hK ▸ tup_sq q⟩, h.hK ▸ k F' H' _ L E1 T1 hw hf⟩
    | _ => cases ei
/-- numbers -/
theorem opdL_ints {F : Addr → Prop} {H : Hp} {i j : Int} {vs : List V} (h : OpdL W F H [.int i, .int j] vs) : vs = [.int i, .int j] := by
  obtain ⟨v, r, rfl, h1, v', r', rfl, h2, rfl⟩ := h
  rw [h1.1.int, h2.1.int]
theorem opdL_int {F : Addr → Prop} {H : Hp} {i : Int} {vs : List V} (h : OpdL W F H [.int i] vs) : vs = [.int i] := by
  obtain ⟨v, r, rfl, h1, rfl⟩ := h
  rw [h1.1.int]
theorem repL_opd {F : Addr → Prop} {H : Hp} {s : T} (P : Pl W F H s) : ∀ {ds : List D} {vs : List V}, RepL W F H ds vs → OpdL W F H ds vs
  | [], _, h => h
  | _ :: _, _, ⟨v, r, e, h1, h2⟩ => ⟨v, r, e, P.opd h1, repL_opd P h2⟩
theorem tooBig {j : Int} (h : j.natAbs ≤ 2 ^ 61) : -(2 ^ 62) ≤ j ∧ j < 2 ^ 62 := by omega
theorem szN {j : Int} (h : j ≤ (szL : Int)) : j.toNat ≤ sizeLine := by rw [← szL_eq]; omega
theorem sz62 {j : Int} (h : j ≤ (szL : Int)) (h' : -1000000 ≤ j) : -(2 ^ 62) ≤ j ∧ j < 2 ^ 62 := by
  have : szL = 16777216 := rfl
  omega
theorem rng1_iff {d : D} {ys : List D} (h : itD .rng [d] = some ys) : ∃ j : Int, d = .int j ∧ j ≤ (szL : Int) ∧ -1000000 ≤ j ∧ ys = rngL 0 j.toNat := by
  cases d <;> simp only [itD] at h
  all_goals try cases h
  split at h
  · rename_i hz
    cases h
    exact ⟨_, rfl, hz.1, hz.2, rfl⟩
  · cases h
theorem rng2_iff {d d' : D} {ys : List D} (h : itD .rng [d, d'] = some ys) : ∃ i j : Int, d = .int i ∧ d' = .int j ∧ j - i ≤ (szL : Int) ∧ i.natAbs ≤ 2 ^ 61 ∧ j.natAbs ≤ 2 ^ 61 ∧ ys = rngL i (j - i).toNat := by
  cases d <;> cases d' <;> simp only [itD] at h
  all_goals try cases h
  split at h
  · rename_i hz
    cases h
    exact ⟨_, _, rfl, rfl, hz.1, hz.2.1, hz.2.2, rfl⟩
  · cases h
theorem evos_two {r : Env} {s : T} {ds : List D} {s' : T} (h : evos G [a, b] r s = some (ds, s')) : ∃ d d', ds = [d, d'] := by
  rw [evos] at h
  obtain ⟨p, e1, e2⟩ := Option.bind_eq_some_iff.mp h
  obtain ⟨q, e3, e4⟩ := Option.map_eq_some_iff.mp e2
  obtain ⟨d', e5, _⟩ := evos_one (ds := q.1) (s' := q.2) e3
  cases e4
  exact ⟨p.1, d', by rw [e5]⟩
theorem evs_two {r : Env} {s : T} {ds : List D} {s' : T} (h : evs G [a, b] r s = some (ds, s')) : ∃ d d', ds = [d, d'] := by
  rw [evs] at h
  obtain ⟨p, e1, e2⟩ := Option.bind_eq_some_iff.mp h
  obtain ⟨q, e3, e4⟩ := Option.map_eq_some_iff.mp e2
  obtain ⟨d', e5, _⟩ := evs_one (ds := q.1) (s' := q.2) e3
  cases e4
  exact ⟨p.1, d', by rw [e5]⟩
theorem si_rng1 {m : Str} {p : Pos} (ha : SA S W G [x] [a]) (hm : m = "range" := by rfl) (hg : S.sc.names.lookup m = some .globalImplicit := by rfl) : SI S W G tg (.Call (.Name m p) [x] [] pos) .rng [a] := fun X h => by
  subst hm
  refine ⟨⟨fun pins s σ H R I q => ?_⟩, ⟨fun pins s σ H R I q => ?_⟩⟩
  · obtain ⟨F, r, s0, ds, s', xs, S0, ee, ei, k⟩ := q
    obtain ⟨d, rfl, e1⟩ := evos_one ee
    obtain ⟨j, rfl, h1, h2, rfl⟩ := rng1_iff ei
    exact (pi_range1 (tg := tg) (gl_of h hg) (h.bt _ (by decide +kernel)) (ha.o X h) (by rw [ha.st]; rfl)).run pins s σ H R I ⟨F, r, s0, _, s', S0, ee, fun F' vs H' E1 T1 O1 => ⟨j, opdL_int O1, (sz62 h1 h2).1, (sz62 h1 h2).2, k F' H' _ [] E1 T1 (its_rng (szN h1))⟩⟩
  · obtain ⟨F, r, s0, ds, s', xs, S0, ee, ei, k⟩ := q
    obtain ⟨d, rfl, e1⟩ := evs_one ee
    obtain ⟨j, rfl, h1, h2, rfl⟩ := rng1_iff ei
    exact (pi_range1 (tg := tg) (gl_of h hg) (h.bt _ (by decide +kernel)) (ha.v X h) (by rw [ha.st]; rfl)).run pins s σ H R I ⟨F, r, s0, _, s', S0, ee, fun F' vs H' E1 T1 O1 => ⟨j, opdL_int (repL_opd (S0.pl.ext E1 T1) O1), (sz62 h1 h2).1, (sz62 h1 h2).2, k F' H' _ [] E1 T1 (its_rng (szN h1)) (by simp)⟩⟩
theorem si_rng2 {m : Str} {p : Pos} (ha : SA S W G [x, y] [a, b]) (hm : m = "range" := by rfl) (hg : S.sc.names.lookup m = some .globalImplicit := by rfl) : SI S W G tg (.Call (.Name m p) [x, y] [] pos) .rng [a, b] := fun X h => by
  subst hm
  refine ⟨⟨fun pins s σ H R I q => ?_⟩, ⟨fun pins s σ H R I q => ?_⟩⟩
  · obtain ⟨F, r, s0, ds, s', xs, S0, ee, ei, k⟩ := q
    obtain ⟨d, d', rfl⟩ := evos_two ee
    obtain ⟨i, j, rfl, rfl, h1, h2, h3, rfl⟩ := rng2_iff ei
    exact (pi_range2 (tg := tg) (gl_of h hg) (h.bt _ (by decide +kernel)) (ha.o X h) (by rw [ha.st]; rfl) (by rw [ha.tail]; rfl)).run pins s σ H R I ⟨F, r, s0, _, s', S0, ee, fun F' vs H' E1 T1 O1 => ⟨i, j, opdL_ints O1, ⟨(tooBig h2).1, (tooBig h2).2, (tooBig h3).1, (tooBig h3).2⟩, k F' H' _ [] E1 T1 (its_rng (szN h1))⟩⟩
  · obtain ⟨F, r, s0, ds, s', xs, S0, ee, ei, k⟩ := q
    obtain ⟨d, d', rfl⟩ := evs_two ee
    obtain ⟨i, j, rfl, rfl, h1, h2, h3, rfl⟩ := rng2_iff ei
    exact (pi_range2 (tg := tg) (gl_of h hg) (h.bt _ (by decide +kernel)) (ha.v X h) (by rw [ha.st]; rfl) (by rw [ha.tail]; rfl)).run pins s σ H R I ⟨F, r, s0, _, s', S0, ee, fun F' vs H' E1 T1 O1 => ⟨i, j, opdL_ints (repL_opd (S0.pl.ext E1 T1) O1), ⟨(tooBig h2).1, (tooBig h2).2, (tooBig h3).1, (tooBig h3).2⟩, k F' H' _ [] E1 T1 (its_rng (szN h1)) (by simp)⟩⟩

/-! ### targets -/
mutual
def tgV : Tg → List Nat
  | .nm i => [i]
  | .tp ts => tgVs ts
def tgVs : List Tg → List Nat
  | [] => []
  | t :: ts => tgV t ++ tgVs ts
end
/-- nothing but these slots has changed -/
def Off (σ σ' : L2.St) (is : List Nat) : Prop := σ'.length = σ.length ∧ ∀ i, i ∉ is → σ'[i]? = σ[i]?
def gG (W : Wd) (t : Tg) : TG := fun v σ H Q => ∃ F r s d r', Sim W F r s σ H ∧ Rep W F H d v ∧ bindT t d r = some r' ∧ ∀ σ', Sim W F r' s σ' H → Off σ σ' (tgV t) → Q σ' H
def gGs (W : Wd) (ts : List Tg) : TGs := fun vs σ H Q => ∃ F r s ds r', Sim W F r s σ H ∧ RepL W F H ds vs ∧ bindTs ts ds r = some r' ∧ ∀ σ', Sim W F r' s σ' H → Off σ σ' (tgVs ts) → Q σ' H
def SG (S : Sc) (x : Expr) (t : Tg) : Prop := ∀ W G X, Std S W G X → PG X x (gG W t)
structure SGs (S : Sc) (xs : List Expr) (ts : List Tg) : Prop where
  p : ∀ W G X, Std S W G X → PGs X xs (gGs W ts)
  st : ∀ env, (assignEach xs env) = xs.map fun x => (false, assign x env)
theorem PG.weak {t u : TG} (h : PG X x t) (w : ∀ v σ H Q, u v σ H Q → t v σ H Q) : PG X x u := ⟨fun pins s σ H v u Q I r q => h.run pins s σ H v u Q I r (w v σ H Q q)⟩
theorem PGs.weak {xs : List Expr} {t u : TGs} (h : PGs X xs t) (w : ∀ v σ H Q, u v σ H Q → t v σ H Q) : PGs X xs u := ⟨fun pins s σ H v u Q I r q => h.run pins s σ H v u Q I r (w v σ H Q q)⟩
theorem sg_nm (i : Nat) {n : Str} (hi : S.N[i]? = some n := by rfl) (hx : Loc S.sc n := by first | exact Or.inl rfl | exact Or.inr rfl) (hf : S.fn n = true ∨ S.sc.names.lookup n = some .local := by first | exact .inl rfl | exact .inr rfl) : SG S (.Name n pos) (.nm i) := fun W G X h => by
  have hf' : X.fn n = true ∨ X.env.scope.names.lookup n = some .local := by
    rw [h.hs]
    exact hf.imp (h.hf n) id
  refine PG.weak (pg_name (i := i) (h.hN ▸ h.nd) (by rw [h.hN]; exact hi) (by rw [h.hs]; exact hx) hf') fun v σ H Q q => ?_
  obtain ⟨F, r, s, d, r', S0, R0, eb, k⟩ := q
  rw [bindT] at eb
  cases eb
  exact k _ (S0.setv i R0) ⟨List.length_set, fun j hj => set_off (by simpa [tgV] using hj)⟩
theorem sgs_nil : SGs S [] [] := ⟨fun W G X h => PGs.weak pgs_nil fun v σ H Q q => by
  obtain ⟨F, r, s, d, r', S0, R0, eb, k⟩ := q
  cases d with
  | nil =>
    rw [bindTs] at eb
    cases eb
    exact ⟨R0, k σ S0 ⟨rfl, fun _ _ => rfl⟩⟩
  | cons d ds => rw [bindTs] at eb <;> simp_all, fun _ => rfl⟩
theorem sgs_cons {xs : List Expr} {t : Tg} {ts : List Tg} (h1 : SG S x t) (h2 : SGs S xs ts) (hs : ∀ env, assignEach (x :: xs) env = (false, assign x env) :: assignEach xs env := by intro _; rfl) : SGs S (x :: xs) (t :: ts) := by
  refine ⟨fun W G X h => PGs.weak (pgs_cons (h1 W G X h) (h2.p W G X h) (by rw [hs]; rfl)) fun vs σ H Q q => ?_, fun env => by rw [hs, h2.st]; rfl⟩
  obtain ⟨F, r, s, ds, r', S0, R0, eb, k⟩ := q
  cases ds with
  | nil => rw [bindTs] at eb <;> simp_all
  | cons d ds =>
    rw [bindTs] at eb
    obtain ⟨r1, e1, e2⟩ := Option.bind_eq_some_iff.mp eb
    obtain ⟨v, vr, rfl, R1, R2⟩ := R0
    refine ⟨v, vr, rfl, F, r, s, d, r1, S0, R1, e1, fun σ1 S1 o1 => ⟨F, r1, s, ds, r', S1, R2, e2, fun σ2 S2 o2 => k σ2 S2 ⟨o2.1.trans o1.1, fun j hj => ?_⟩⟩⟩
    simp only [tgVs, List.mem_append, not_or] at hj
    rw [o2.2 j hj.2, o1.2 j hj.1]
theorem findIdx_plain {α β : Type} {f : α → β} {xs : List α} : (xs.map fun x => (false, f x)).findIdx? (·.1) = none := by
  rw [List.findIdx?_eq_none_iff]
  simp
theorem sg_tp {xs : List Expr} {ts : List Tg} {k0 : Nat} (h1 : SGs S xs ts) (hl : xs.length = ts.length := by rfl) : SG S (.Tuple xs k0 pos) (.tp ts) := fun W G X h => by
  refine PG.weak (pg_tup (n := xs.length) h.calm (h1.p W G X h) (by rw [h1.st, List.length_map]) (by rw [h1.st]; exact findIdx_plain)) fun v σ H Q q => ?_
  obtain ⟨F, r, s, d, r', S0, R0, eb, k⟩ := q
  cases d with
  | tup ds =>
    rw [bindT] at eb
    obtain ⟨p, vs, rfl, z, q, rl⟩ := R0.top.tup
    have len : ∀ (ts : List Tg) (ds : List D) (r r' : Env), bindTs ts ds r = some r' → ds.length = ts.length := by
      intro ts
      induction ts with
      | nil =>
        intro ds r r' e
        cases ds with
        | nil => rfl
        | cons d ds => rw [bindTs] at e <;> simp_all
      | cons t ts ih =>
        intro ds r r' e
        cases ds with
        | nil => rw [bindTs] at e <;> simp_all
        | cons d ds =>
          rw [bindTs] at e
          obtain ⟨r1, e1, e2⟩ := Option.bind_eq_some_iff.mp e
          rw [List.length_cons, List.length_cons, ih ds r1 r' e2]
    exact ⟨p, vs, rfl, h.hK ▸ tup_sq q, by rw [rl.length, len ts ds r r' eb, hl], F, r, s, ds, r', S0, rl, eb, fun σ' S' o => k σ' S' (by rw [tgV]; exact o)⟩
  | _ => rw [bindT] at eb <;> simp_all
end
end Ip

/-! IpJ: zip, enumerate, list comprehensions. -/
namespace Ip
open PySem PySem.Spec PyProof.Rows L2 RZ
section
variable {S : Sc} {W : Wd} {G : Gl} {X : Cx} {x y z tg : Expr} {a b c e : E} {pos : Pos}
theorem two_ok {u v : V} : [u, v].length ≤ sizeLine := by rw [← szL_eq]; show 2 ≤ szL; decide
theorem its_pair {F : Addr → Prop} {H : Hp} {J : It} {n : Nat} {ds : List D} {L : List Addr} {f g : Nat → Option V} (ne : ∀ p ∈ L, p ≠ W.ba ∧ p ≠ W.ca ∧ H p ≠ none) (hz : n ≤ sizeLine) (hn : ds.length = n)
    (hr : ∀ (i : Nat) (d : D) (u v : V), ds[i]? = some d → f i = some u → g i = some v → ∃ p q, d = .tup [p, q] ∧ Rep W F H p u ∧ Rep W F H q v) (w : Walk J n (fun H2 => ∀ p ∈ L, H2 p = H p) (YPair f g)) : Wlk W F H J ds L := by
  refine ⟨ne, by rw [hn]; exact hz, ?_⟩
  rw [hn]
  refine w.mono (fun _ h => h) fun i H1 x H2 hi hg y d hd F2 hF hH fk => ?_
  obtain ⟨t, u, v, rfl, ht, rfl, e1, e2⟩ := y
  obtain ⟨p, q, rfl, r1, r2⟩ := hr i d u v hd e1 e2
  refine .inr ⟨t, _, rfl, ht, rfl, [u, v], two_ok, upd_same, ?_⟩
  exact RepL.laid fk ht ⟨u, [v], rfl, Rep.mono hF hH p u r1, v, [], rfl, Rep.mono hF hH q v r2, rfl⟩
theorem zip_get {ds es : List D} {vs us : List V} {F : Addr → Prop} {H : Hp} (R1 : RepL W F H ds vs) (R2 : RepL W F H es us) (i : Nat) (d : D) (u v : V) (h : (List.zipWith (fun x y => D.tup [x, y]) ds es)[i]? = some d) (h1 : vs[i]? = some u) (h2 : us[i]? = some v) : ∃ p q, d = .tup [p, q] ∧ Rep W F H p u ∧ Rep W F H q v := by
  rw [List.getElem?_zipWith] at h
  cases e1 : ds[i]? with
  | none => rw [e1] at h; cases h
  | some p =>
    cases e2 : es[i]? with
    | none => rw [e1, e2] at h; cases h
    | some q =>
      rw [e1, e2] at h
      cases h
      obtain ⟨v1, a1, b1⟩ := R1.get e1
      obtain ⟨v2, a2, b2⟩ := R2.get e2
      rw [h1] at a1
      rw [h2] at a2
      cases a1
      cases a2
      exact ⟨p, q, rfl, b1, b2⟩
theorem walk_zipT {K : PySem.W.Frag} {a b : Addr} {xs ys : List V} {n : Nat} (hn : n = min xs.length ys.length) : Walk (ItzT K a b) n (fun H => SqT K H a xs ∧ SqT K H b ys) (YPair (fun i => xs[i]?) (fun i => ys[i]?)) := by
  subst hn
  refine ⟨fun i _ hi q => ?_, fun _ q => ⟨xs, ys, q.1, q.2, by omega⟩, fun i H v H' _ q y => ?_⟩
  · have h1 : i < xs.length := by omega
    have h2 : i < ys.length := by omega
    exact ⟨xs, ys, xs[i], ys[i], q.1, q.2, by simp [h1], by simp [h2]⟩
  · obtain ⟨T, x, z, h1, h2, h3, h4, h5⟩ := y
    exact ⟨T, x, z, h1, h2, h3, h4 xs q.1, h5 ys q.2⟩
theorem zip_iff {d d' : D} {ys : List D} (h : itD .zip [d, d'] = some ys) : ∃ us vs, ((d = .lst us ∧ d' = .lst vs) ∨ (d = .tup us ∧ d' = .tup vs)) ∧ ys = List.zipWith (fun x y => .tup [x, y]) us vs := by
  cases d <;> cases d' <;> simp only [itD] at h
  all_goals try cases h
  · exact ⟨_, _, .inr ⟨rfl, rfl⟩, rfl⟩
  · exact ⟨_, _, .inl ⟨rfl, rfl⟩, rfl⟩
theorem its_zip {F : Addr → Prop} {H : Hp} {s : T} {d d' : D} {us vs : List D} {xs : List V} (P : Pl W F H s) (hd : (d = .lst us ∧ d' = .lst vs) ∨ (d = .tup us ∧ d' = .tup vs)) (h : OpdL W F H [d, d'] xs) :
    ∃ (p q : Addr) (as bs : List V) (L : List Addr), xs = [.ref p, .ref q] ∧ ((SqL W.K H p as ∧ SqL W.K H q bs ∧ Wlk W F H (Itz W.K p q) (List.zipWith (fun x y => .tup [x, y]) us vs) L) ∨ (SqT W.K H p as ∧ SqT W.K H q bs ∧ Wlk W F H (ItzT W.K p q) (List.zipWith (fun x y => .tup [x, y]) us vs) L)) ∧
      ((∀ ds, RepL W F H ds xs → ds = [d, d'] → ∀ b ∈ L, F b) ) := by
  obtain ⟨v, r, rfl, h1, v', r', rfl, h2, rfl⟩ := h
  rcases hd with ⟨rfl, rfl⟩ | ⟨rfl, rfl⟩
  · obtain ⟨p, as, rfl, z1, q1, r1⟩ := h1.1.lst
    obtain ⟨q, bs, rfl, z2, q2, r2⟩ := h2.1.lst
    refine ⟨p, q, as, bs, [p, q], rfl, .inl ⟨SqL.of q1, SqL.of q2, ?_⟩, ?_⟩
    · refine its_pair (n := min as.length bs.length) ?_ (by omega) (by rw [List.length_zipWith, r1.length, r2.length]) (fun i d u v => zip_get r1 r2 i d u v) ((walk_zip rfl).mono (fun H2 hh => ⟨SqL.of ((hh p (by simp)).trans q1), SqL.of ((hh q (by simp)).trans q2)⟩) fun _ _ _ _ _ _ y => y)
      intro b hb
      simp only [List.mem_cons, List.not_mem_nil, or_false] at hb
      rcases hb with rfl | rfl
      · exact ⟨(h1.2 _ rfl ⟨_, rfl⟩).1, (h1.2 _ rfl ⟨_, rfl⟩).2, by rw [q1]; simp⟩
      · exact ⟨(h2.2 _ rfl ⟨_, rfl⟩).1, (h2.2 _ rfl ⟨_, rfl⟩).2, by rw [q2]; simp⟩
    · rintro ds R rfl b hb
      obtain ⟨v, r, e, g1, v', r', e', g2, _⟩ := R
      cases e
      cases e'
      obtain ⟨_, _, e1, _, f1, _⟩ := rep_lst g1
      obtain ⟨_, _, e2, _, f2, _⟩ := rep_lst g2
      cases e1
      cases e2
      simp only [List.mem_cons, List.not_mem_nil, or_false] at hb
      rcases hb with rfl | rfl
      · exact f1
      · exact f2
  · obtain ⟨p, as, rfl, z1, q1, r1⟩ := h1.1.tup
    obtain ⟨q, bs, rfl, z2, q2, r2⟩ := h2.1.tup
    obtain ⟨L1, l1, s1⟩ := tup_L P q1
    obtain ⟨L2, l2, s2⟩ := tup_L P q2
    refine ⟨p, q, as, bs, L1 ++ L2, rfl, .inr ⟨tup_sq q1, tup_sq q2, ?_⟩, ?_⟩
    · refine its_pair (n := min as.length bs.length) ?_ (by omega) (by rw [List.length_zipWith, r1.length, r2.length]) (fun i d u v => zip_get r1 r2 i d u v) ((walk_zipT rfl).mono (fun H2 hh => ⟨s1 H2 fun b hb => hh b (List.mem_append_left _ hb), s2 H2 fun b hb => hh b (List.mem_append_right _ hb)⟩) fun _ _ _ _ _ _ y => y)
      intro b hb
      rcases List.mem_append.mp hb with hb | hb
      · exact (l1 b hb).2
      · exact (l2 b hb).2
    · rintro ds R rfl b hb
      rcases List.mem_append.mp hb with hb | hb
      · exact (l1 b hb).1
      · exact (l2 b hb).1
theorem si_zip {m : Str} {p tpos : Pos} {elts : List Expr} {kk : Nat} (ha : SA S W G [x, y] [a, b]) (hm : m = "zip" := by rfl) (hg : S.sc.names.lookup m = some .globalImplicit := by rfl) : SI S W G (.Tuple elts kk tpos) (.Call (.Name m p) [x, y] [] pos) .zip [a, b] := fun X h => by
  subst hm
  refine ⟨⟨fun pins s σ H R I q => ?_⟩, ⟨fun pins s σ H R I q => ?_⟩⟩
  · obtain ⟨F, r, s0, ds, s', xs, S0, ee, ei, k⟩ := q
    obtain ⟨d, d', rfl⟩ := evos_two ee
    obtain ⟨us, vs, hd, rfl⟩ := zip_iff ei
    refine (pi_zipA (gl_of h hg) (h.bt _ (by decide +kernel)) (ha.o X h) (ha.head _) (ha.plain _ _)).run pins s σ H R I ⟨F, r, s0, _, s', S0, ee, fun F' ws H' E1 T1 O1 => ?_⟩
    obtain ⟨p, q, as, bs, L, rfl, hh, _⟩ := its_zip (S0.pl.ext E1 T1) hd O1
    rw [h.hK]
    rcases hh with ⟨h1, h2, h3⟩ | ⟨h1, h2, h3⟩
    · exact ⟨p, q, as, bs, rfl, .inl ⟨h1, h2, k F' H' _ L E1 T1 h3⟩⟩
    · exact ⟨p, q, as, bs, rfl, .inr ⟨h1, h2, k F' H' _ L E1 T1 h3⟩⟩
  · obtain ⟨F, r, s0, ds, s', xs, S0, ee, ei, k⟩ := q
    obtain ⟨d, d', rfl⟩ := evs_two ee
    obtain ⟨us, vs, hd, rfl⟩ := zip_iff ei
    refine (pi_zipA (gl_of h hg) (h.bt _ (by decide +kernel)) (ha.v X h) (ha.head _) (ha.plain _ _)).run pins s σ H R I ⟨F, r, s0, _, s', S0, ee, fun F' ws H' E1 T1 O1 => ?_⟩
    obtain ⟨p, q, as, bs, L, rfl, hh, hf⟩ := its_zip (S0.pl.ext E1 T1) hd (repL_opd (S0.pl.ext E1 T1) O1)
    have hf := hf _ O1 rfl
    rw [h.hK]
    rcases hh with ⟨h1, h2, h3⟩ | ⟨h1, h2, h3⟩
    · exact ⟨p, q, as, bs, rfl, .inl ⟨h1, h2, k F' H' _ L E1 T1 h3 hf⟩⟩
    · exact ⟨p, q, as, bs, rfl, .inr ⟨h1, h2, k F' H' _ L E1 T1 h3 hf⟩⟩
theorem enum_iff {d : D} {ys : List D} (h : itD .enum [d] = some ys) : ∃ us, d = .lst us ∧ ys = us.zipIdx.map fun p => .tup [.int (p.2 : Nat), p.1] := by
  cases d <;> simp only [itD] at h
  all_goals try cases h
  exact ⟨_, rfl, rfl⟩
theorem its_enum {F : Addr → Prop} {H : Hp} {p : Addr} {us : List D} {vs : List V} (hz : vs.length ≤ sizeLine) (q : H p = some (.lst vs)) (R : RepL W F H us vs) (n : p ≠ W.ba ∧ p ≠ W.ca) : Wlk W F H (Ite W.K p) (us.zipIdx.map fun p => .tup [.int (p.2 : Nat), p.1]) [p] := by
  refine its_pair (n := vs.length) ?_ hz (by rw [List.length_map, List.length_zipIdx, R.length]) ?_ ((walk_enum (K := W.K) (a := p) (xs := vs)).mono (fun H2 hh => SqL.of ((hh p (by simp)).trans q)) fun _ _ _ _ _ _ y => y)
  · intro b hb
    simp only [List.mem_singleton] at hb
    subst hb
    exact ⟨n.1, n.2, by rw [q]; simp⟩
  · intro i d u v hd hu hv
    cases hu
    rw [List.getElem?_map, List.getElem?_zipIdx] at hd
    cases e : us[i]? with
    | none => rw [e] at hd; cases hd
    | some d0 =>
      rw [e] at hd
      cases hd
      obtain ⟨v1, a1, b1⟩ := R.get e
      rw [hv] at a1
      cases a1
      refine ⟨_, _, rfl, ?_, b1⟩
      simp only [Rep, Nat.zero_add]
theorem si_enum {m : Str} {p tpos : Pos} {elts : List Expr} {kk : Nat} (ha : SA S W G [x] [a]) (hm : m = "enumerate" := by rfl) (hg : S.sc.names.lookup m = some .globalImplicit := by rfl) : SI S W G (.Tuple elts kk tpos) (.Call (.Name m p) [x] [] pos) .enum [a] := fun X h => by
  subst hm
  refine ⟨⟨fun pins s σ H R I q => ?_⟩, ⟨fun pins s σ H R I q => ?_⟩⟩
  · obtain ⟨F, r, s0, ds, s', xs, S0, ee, ei, k⟩ := q
    obtain ⟨d, rfl, e1⟩ := evos_one ee
    obtain ⟨us, rfl, rfl⟩ := enum_iff ei
    refine (pi_enum (gl_of h hg) (h.bt _ (by decide +kernel)) (ha.o X h) (by rw [ha.st]; rfl)).run pins s σ H R I ⟨F, r, s0, _, s', S0, ee, fun F' ws H' E1 T1 O1 => ?_⟩
    obtain ⟨v, r', rfl, h1, rfl⟩ := O1
    obtain ⟨p, as, rfl, z1, q1, r1⟩ := h1.1.lst
    rw [h.hK]
    exact ⟨p, as, rfl, SqL.of q1, k F' H' _ [p] E1 T1 (its_enum z1 q1 r1 (h1.2 _ rfl ⟨_, rfl⟩))⟩
  · obtain ⟨F, r, s0, ds, s', xs, S0, ee, ei, k⟩ := q
    obtain ⟨d, rfl, e1⟩ := evs_one ee
    obtain ⟨us, rfl, rfl⟩ := enum_iff ei
    refine (pi_enum (gl_of h hg) (h.bt _ (by decide +kernel)) (ha.v X h) (by rw [ha.st]; rfl)).run pins s σ H R I ⟨F, r, s0, _, s', S0, ee, fun F' ws H' E1 T1 O1 => ?_⟩
    obtain ⟨v, r', rfl, h1, rfl⟩ := O1
    obtain ⟨p, as, rfl, z1, f1, q1, r1⟩ := rep_lst h1
    rw [h.hK]
    exact ⟨p, as, rfl, SqL.of q1, k F' H' _ [p] E1 T1 (its_enum z1 q1 r1 (((S0.pl.ext E1 T1).opd h1).2 _ rfl ⟨_, rfl⟩)) (by simpa using f1)⟩

/-! ### list comprehensions -/
def gTs (W : Wd) (G : Gl) (es : List E) : TT := fun σ H Q => ∃ F r s b s', Sim W F r s σ H ∧ evts G es r s = some (b, s') ∧ ∀ F' H', Ext W F H F' H' → Tp W s' H' → Q b H'
def ST (S : Sc) (W : Wd) (G : Gl) (xs : List Expr) (es : List E) : Prop := ∀ X, Std S W G X → PTs X xs (gTs W G es)
theorem PTs.weak {xs : List Expr} {t u : TT} (h : PTs X xs t) (w : ∀ σ H Q, u σ H Q → t σ H Q) : PTs X xs u := ⟨fun pins s σ H Q I q => h.run pins s σ H Q I (w σ H Q q)⟩
theorem st_nil : ST S W G [] [] := fun X h => PTs.weak pts_nil fun σ H Q q => by
  obtain ⟨F, r, s, d, s', S0, ee, k⟩ := q
  rw [evts] at ee
  cases ee
  exact k F H (Ext.refl S0.f2) S0.tape
theorem st_one (h1 : SE S W G x a) : ST S W G [x] [a] := fun X h => PTs.weak (pts_one (h1 X h).t) fun σ H Q q => by
  obtain ⟨F, r, s, d, s', S0, ee, k⟩ := q
  rw [evts] at ee
  obtain ⟨⟨p, s1⟩, e1, e2⟩ := Option.bind_eq_some_iff.mp ee
  refine ⟨F, r, s, p, s1, S0, e1, fun F1 H1 E1 T1 => ?_⟩
  cases p with
  | true => dsimp only at e2; rw [if_pos rfl, evts] at e2; cases e2; exact k F1 H1 E1 T1
  | false => cases e2; exact k F1 H1 E1 T1
theorem Ext.over {F F' : Addr → Prop} {H H' : Hp} (e : Ext W F H F' H') {p : Addr} {o : HO} (hp : H p = none) : Ext W F H F' (upd H' p o) where
  keep := fun a q e1 n1 n2 => by rw [upd_ne (ne_of_none e1 hp)]; exact e.keep a q e1 n1 n2
  mono := e.mono
  new := e.new
  live := fun a h => by
    by_cases q : a = p
    · subst q; rw [upd_same]; simp
    · rw [upd_ne q]; exact e.live a h
  alive := fun a h => by
    by_cases q : a = p
    · subst q; rw [upd_same]; simp
    · rw [upd_ne q]; exact e.alive a h
theorem Tp.over {s : T} {H : Hp} (t : Tp W s H) {p : Addr} {o : HO} (n1 : p ≠ W.ba) (n2 : p ≠ W.ca) : Tp W s (upd H p o) :=
  ⟨by rw [upd_ne n1.symm]; exact t.1, by rw [upd_ne n2.symm]; exact t.2.1, t.2.2⟩
theorem wipe_eq' {σ σ' : L2.St} {is own : List Nat} (h : Off (wipe σ own) σ' is) (hv : ∀ i ∈ is, i ∈ own) : wipe σ' own = wipe σ own := by
  have e : wipe (wipe σ own) own = wipe σ own := by
    apply List.ext_getElem?
    intro i
    rw [get_wipe, get_wipe]
    by_cases hi : i ∈ own
    · rw [if_pos hi, if_pos hi, Option.map_map]; rfl
    · rw [if_neg hi, if_neg hi]
  rw [← e]
  exact wipe_eq h.1 fun i hi => h.2 i fun z => hi (hv i z)
theorem lc_weak {wi : TI} {k : Ik} {es cs : List E} {t : Tg} {own : List Nat} {σ : L2.St} {H : Hp} {Q : VK} (hv : ∀ i ∈ tgV t, i ∈ own) (hw : wi = iO W G k es) (q : gF W G (.lc own t k es cs e) σ H Q) : tLc wi (gG W t) (gTs W G cs) (gV W G e) own σ H Q := by
  subst hw
  obtain ⟨F, r, s, d, s', S0, ee, kk⟩ := q
  rw [ev] at ee
  obtain ⟨p, e1, e2⟩ := Option.bind_eq_some_iff.mp ee
  obtain ⟨xs, e3, e4⟩ := Option.bind_eq_some_iff.mp e2
  obtain ⟨qq, e5, e6⟩ := Option.map_eq_some_iff.mp e4
  cases e6
  refine ⟨F, r, s, p.1, p.2, xs, S0, e1, e3, fun F1 H1 J L E1 T1 w1 => fun A hA => ?_⟩
  have nA1 : A ≠ W.ba := fun z => T1.ba_some (z ▸ hA)
  have nA2 : A ≠ W.ca := fun z => T1.ca_some (z ▸ hA)
  have nAF : ¬ F1 A := fun z => E1.live A z hA
  refine lc_it w1.w (fun i H2 => ∃ F2 s2 acc ds q2, Ext W F1 H1 F2 H2 ∧ Tp W s2 H2 ∧ H2 A = some (.lst acc) ∧ RepL W F2 H2 ds acc ∧ ¬ F2 A ∧ lcF (fun x s => (bindT t x (wipeE r own)).bind fun r' => (evts G cs r' s).bind fun q => if q.1 then ((ev G e r').v q.2).map fun u => (some u.1, u.2) else some (none, q.2)) (xs.drop i) s2 = some q2 ∧ ds ++ q2.1 = qq.1 ∧ q2.2 = qq.2 ∧ acc.length ≤ i)
    ?_ ?_ ?_ ?_
  · exact ⟨F1, p.2, [], [], qq, Ext.laid E1.live hA, T1.laid hA, upd_same, rfl, nAF, e5, rfl, rfl, Nat.le_refl _⟩
  · rintro i H2 _ ⟨F2, s2, acc, ds, q2, E2, _⟩ a ha
    obtain ⟨n1, n2, n3⟩ := w1.ne a ha
    cases z : H1 a with
    | none => exact absurd z n3
    | some o => exact E2.keep a o z n1 n2
  · rintro i x H2 H3 hi ⟨F2, s2, acc, ds, q2, E2, T2, hacc, RR, nF, el, eq1, eq2, hlen⟩ y
    have P1 := S0.pl.ext E1 T1
    have P2 := P1.ext E2 T2
    obtain ⟨xd, hxd⟩ : ∃ xd, xs[i]? = some xd := ⟨xs[i], by simp [hi]⟩
    have hdrop : xs.drop i = xd :: xs.drop (i + 1) := by
      rw [List.drop_eq_getElem_cons hi]
      congr 1
      rw [List.getElem?_eq_getElem hi] at hxd
      exact Option.some.inj hxd
    obtain ⟨F3, E3, T3, R3⟩ := Yl.rep P2 (y xd hxd F2 E2.mono (E2.frozen P1.f2 P1.f3) E2.live)
    rw [hdrop, lcF] at el
    obtain ⟨p1, f1, f2⟩ := Option.bind_eq_some_iff.mp el
    obtain ⟨p2, f3, f4⟩ := Option.map_eq_some_iff.mp f2
    obtain ⟨r', g1, g2⟩ := Option.bind_eq_some_iff.mp f1
    obtain ⟨⟨bb, s4⟩, g3, g4⟩ := Option.bind_eq_some_iff.mp g2
    have S3 := S0.ext ((E1.trans E2).trans E3) T3
    have keepA : ∀ {F' F'' : Addr → Prop} {H' H'' : Hp}, Ext W F' H' F'' H'' → H' A = some (.lst acc) → H'' A = some (.lst acc) := fun E' z => E'.keep A _ z nA1 nA2
    have nfA : ∀ {F' F'' : Addr → Prop} {H' H'' : Hp}, Ext W F' H' F'' H'' → H' A = some (.lst acc) → ¬ F' A → ¬ F'' A := fun E' z n z' => by
      rcases E'.new A z' with u | u
      · exact n u
      · rw [z] at u; cases u
    have a3 := keepA E3 hacc
    have n3 := nfA E3 hacc nF
    refine ⟨F3, wipeE r own, s2, xd, r', S3.wiped own, R3, g1, fun σ' S' off => ⟨wipe_eq' off hv, F3, r', s2, bb, s4, S', g3, fun F4 H4 E4 T4 => ?_⟩⟩
    have a4 := keepA E4 a3
    have n4 := nfA E4 a3 n3
    cases bb with
    | false =>
      cases g4
      cases f4
      exact iteF ⟨F4, s4, acc, ds, p2, (E2.trans E3).trans E4, T4, a4, (P2.ext E3 T3).repL E4 (P2.repL E3 RR), n4, f3, eq1, eq2, by omega⟩
    | true =>
      dsimp only at g4
      rw [if_pos rfl] at g4
      obtain ⟨⟨ud, s5⟩, g5, g6⟩ := Option.map_eq_some_iff.mp g4
      cases g6
      cases f4
      refine iteT ⟨F4, r', s4, ud, s5, S'.ext E4 T4, g5, fun F5 v H5 E5 T5 R5 => ⟨acc, keepA E5 a4, Nat.lt_of_le_of_lt hlen (Nat.lt_of_lt_of_le hi w1.sz), ?_⟩⟩
      have n5 := nfA E5 a4 n4
      have P4 := (P2.ext E3 T3).ext E4 T4
      have RR5 : RepL W F5 H5 (ds ++ [ud]) (acc ++ [v]) := RepL.append (P4.repL E5 ((P2.ext E3 T3).repL E4 (P2.repL E3 RR))) ⟨v, [], rfl, R5, rfl⟩
      refine ⟨F5, s5, acc ++ [v], ds ++ [ud], p2, Ext.over (((E2.trans E3).trans E4).trans E5) hA, T5.over nA1 nA2, upd_same, RepL.mono (fun _ q => q) (fun b q => upd_ne (fun z : b = A => n5 (z ▸ q))) _ _ RR5, n5, f3, ?_, eq2, ?_⟩
      · rw [List.append_assoc]; exact eq1
      · rw [List.length_append, List.length_singleton]; omega
  · rintro H2 ⟨F2, s2, acc, ds, q2, E2, T2, hacc, RR, nF, el, eq1, eq2, hlen⟩
    rw [List.drop_length, lcF] at el
    cases el
    rw [List.append_nil] at eq1
    dsimp only at eq2
    subst eq1
    refine kk F2 (.ref A) H2 (E1.trans E2) (eq2 ▸ T2) ?_
    unfold Own
    rw [if_pos (show isMut (.lst qq.1) = true from rfl)]
    refine ⟨A, rfl, ?_, nF, by rw [hacc]; simp, ⟨A, acc, rfl, ?_, hacc, RR⟩⟩
    · cases z : H A with
      | none => rfl
      | some o => exact absurd hA (E1.alive A (by rw [z]; simp))
    · exact Nat.le_trans hlen w1.sz
end
end Ip

/-! IpK: list comprehensions, statements: the rules. -/
namespace Ip
open PySem PySem.Spec PyProof.Rows L2
section
variable {S : Sc} {W : Wd} {G : Gl} {X : Cx} {x y z tg : Expr} {a b c e : E} {pos : Pos}
theorem mk_lc {own : List Nat} {t : Tg} {k : Ik} {es cs : List E} : Mk G (.lc own t k es cs e) := fun r => ⟨_, by rw [ev]⟩
structure Lc (S : Sc) (W : Wd) (G : Gl) (elt tg iter : Expr) (ifs : List Expr) (scope : Scope) (own : List (Str × Nat)) (t : Tg) (k : Ik) (es cs : List E) (e : E) : Prop where
  hi : SI S W G tg iter k es
  ok : BlkOk S.N S.sc scope own
  hg : SG (S.blk scope) tg t
  ht : ST (S.blk scope) W G ifs cs
  he : SE (S.blk scope) W G elt e
  hs : ∀ env x, foldedSetIterable iter env x = pure x := by intro _ _; rfl
  hv : ∀ i ∈ tgV t, i ∈ own.map (·.2) := by decide
variable {elt iter : Expr} {ifs : List Expr} {scope : Scope} {own : List (Str × Nat)} {t : Tg} {k : Ik} {es cs : List E}
theorem sf_lc (L : Lc S W G elt tg iter ifs scope own t k es cs e) : SF S W G (.ListComp elt [⟨tg, iter, ifs, 0⟩] scope pos) (.lc (own.map (·.2)) t k es cs e) := fun X h =>
  PE.weak (pe_lc h.calm (h.hN ▸ h.nd) (L.hi X h).o (by rw [h.hN, h.hs]; exact L.ok) (fun s H C cl fp => L.hg W G _ (h.blk s H C cl fp)) (fun s H C cl fp => L.ht _ (h.blk s H C cl fp)) (fun s H C cl fp => (L.he _ (h.blk s H C cl fp)).v) (L.hs _))
    fun σ H Q q => lc_weak L.hv rfl q
theorem se_lc (L : Lc S W G elt tg iter ifs scope own t k es cs e) : SE S W G (.ListComp elt [⟨tg, iter, ifs, 0⟩] scope pos) (.lc (own.map (·.2)) t k es cs e) := SF.se (fun _ _ => rfl) mk_lc (sf_lc L)
end

/-! ### statements -/
def Kp (F : Addr → Prop) (H : Hp) (F' : Addr → Prop) (H' : Hp) : Prop := (∀ a, F a → F' a) ∧ ∀ a, F a → H' a = H a
theorem Kp.refl {F : Addr → Prop} {H : Hp} : Kp F H F H := ⟨fun _ h => h, fun _ _ => rfl⟩
theorem Kp.trans {F F' F'' : Addr → Prop} {H H' H'' : Hp} (a : Kp F H F' H') (b : Kp F' H' F'' H'') : Kp F H F'' H'' := ⟨fun x h => b.1 x (a.1 x h), fun x h => (b.2 x (a.1 x h)).trans (a.2 x h)⟩
def Fin (W : Wd) (F : Addr → Prop) (H : Hp) (D : Ends) : R → Prop
  | .nx r s => ∀ F' σ' H', Kp F H F' H' → Sim W F' r s σ' H' → D.nx σ' H'
  | .bk r s => ∀ F' σ' H', Kp F H F' H' → Sim W F' r s σ' H' → D.bk σ' H'
  | .ct r s => ∀ F' σ' H', Kp F H F' H' → Sim W F' r s σ' H' → D.ct σ' H'
  | .rt d s => ∀ F' v H', Ext W W.F0 W.H0 F' H' → Tp W s H' → Rep W F' H' d v → D.rt v H'
theorem Fin.kp {W : Wd} {F F' : Addr → Prop} {H H' : Hp} {D : Ends} {o : R} (k : Kp F H F' H') (h : Fin W F H D o) : Fin W F' H' D o := by
  cases o with
  | nx r s => exact fun F2 σ2 H2 k2 S2 => h F2 σ2 H2 (k.trans k2) S2
  | bk r s => exact fun F2 σ2 H2 k2 S2 => h F2 σ2 H2 (k.trans k2) S2
  | ct r s => exact fun F2 σ2 H2 k2 S2 => h F2 σ2 H2 (k.trans k2) S2
  | rt d s => exact h
def gS (W : Wd) (G : Gl) (wn : Nat) (x : S) : TS := fun D σ H => ∃ F r t o, Sim W F r t σ H ∧ ex G wn x r t = some o ∧ Fin W F H D o
def gSs (W : Wd) (G : Gl) (wn : Nat) (xs : List S) : TS := fun D σ H => ∃ F r t o, Sim W F r t σ H ∧ exs G wn xs r t = some o ∧ Fin W F H D o
def SS (S : Sc) (W : Wd) (G : Gl) (wn : Nat) (st : Stmt) (x : Ip.S) : Prop := ∀ X, Std S W G X → PS X st (gS W G wn x)
def SSs (S : Sc) (W : Wd) (G : Gl) (wn : Nat) (st : List Stmt) (xs : List Ip.S) : Prop := ∀ X, Std S W G X → PSs X st (gSs W G wn xs)
section
variable {S : Sc} {W : Wd} {G : Gl} {wn : Nat} {X : Cx} {x y z tg : Expr} {a b c e : E} {pos : Pos} {st : Stmt} {sts : List Stmt} {u : Ip.S} {us us' : List Ip.S}
theorem PS.weak {t w : TS} (h : PS X st t) (k : ∀ D σ H, w D σ H → t D σ H) : PS X st w := ⟨fun pins s σ H D I q => h.run pins s σ H D I (k D σ H q)⟩
theorem PSs.weak {t w : TS} (h : PSs X sts t) (k : ∀ D σ H, w D σ H → t D σ H) : PSs X sts w := ⟨fun pins s σ H D I q => h.run pins s σ H D I (k D σ H q)⟩
theorem Ext.kp {F F' : Addr → Prop} {H H' : Hp} {s : T} (E1 : Ext W F H F' H') (P : Pl W F H s) : Kp F H F' H' := ⟨E1.mono, E1.frozen P.f2 P.f3⟩
theorem ss_bad : SS S W G wn st .bad := fun X h => PS.weak ps_never fun D σ H q => by
  obtain ⟨F, r, t, o, S0, ee, f⟩ := q
  rw [ex] at ee
  cases ee
theorem sss_nil : SSs S W G wn [] [] := fun X h => PSs.weak pss_nil fun D σ H q => by
  obtain ⟨F, r, t, o, S0, ee, f⟩ := q
  rw [exs] at ee
  cases ee
  exact f F σ H Kp.refl S0
theorem sss_cons (h1 : SS S W G wn st u) (h2 : SSs S W G wn sts us) : SSs S W G wn (st :: sts) (u :: us) := fun X h => PSs.weak (pss_cons (h1 X h) (h2 X h)) fun D σ H q => by
  obtain ⟨F, r, t, o, S0, ee, f⟩ := q
  rw [exs] at ee
  unfold seqR at ee
  obtain ⟨o1, e1, e2⟩ := Option.bind_eq_some_iff.mp ee
  refine ⟨F, r, t, o1, S0, e1, ?_⟩
  cases o1 with
  | nx r1 s1 => exact fun F1 σ1 H1 k1 S1 => ⟨F1, r1, s1, o, S1, e2, f.kp k1⟩
  | bk r1 s1 => cases e2; exact f
  | ct r1 s1 => cases e2; exact f
  | rt d s1 => cases e2; exact f
theorem ss_pass : SS S W G wn (.Pass pos) .pas := fun X h => PS.weak ps_pass fun D σ H q => by
  obtain ⟨F, r, t, o, S0, ee, f⟩ := q
  rw [ex] at ee
  cases ee
  exact f F σ H Kp.refl S0
theorem ss_doc {i : Str} {j : Nat} {p : Pos} : SS S W G wn (.Expr (.Constant (.str i) j p) pos) .pas := fun X h => PS.weak ps_doc fun D σ H q => by
  obtain ⟨F, r, t, o, S0, ee, f⟩ := q
  rw [ex] at ee
  cases ee
  exact f F σ H Kp.refl S0
theorem ss_brk : SS S W G wn (.Break pos) .brk := fun X h => PS.weak ps_break fun D σ H q => by
  obtain ⟨F, r, t, o, S0, ee, f⟩ := q
  rw [ex] at ee
  cases ee
  exact f F σ H Kp.refl S0
theorem ss_cnt : SS S W G wn (.Continue pos) .cnt := fun X h => PS.weak ps_continue fun D σ H q => by
  obtain ⟨F, r, t, o, S0, ee, f⟩ := q
  rw [ex] at ee
  cases ee
  exact f F σ H Kp.refl S0
theorem Sim.done {F : Addr → Prop} {r : Env} {s : T} {σ : L2.St} {H : Hp} (S0 : Sim W F r s σ H) : Ext W W.F0 W.H0 F H where
  keep := S0.old
  mono := S0.f0
  new := S0.f1
  live := S0.f2
  alive := fun a h => by
    by_cases n1 : a = W.ba
    · subst n1; exact S0.tape.ba_some
    · by_cases n2 : a = W.ca
      · subst n2; exact S0.tape.ca_some
      · cases z : W.H0 a with
        | none => exact absurd z h
        | some o => rw [S0.old a o z n1 n2]; simp
theorem ss_ret (ha : SE S W G x a) : SS S W G wn (.Return (some x) pos) (.ret a) := fun X h => PS.weak (ps_ret (ha X h).v) fun D σ H q => by
  obtain ⟨F, r, t, o, S0, ee, f⟩ := q
  rw [ex] at ee
  obtain ⟨p, e1, e2⟩ := Option.map_eq_some_iff.mp ee
  cases e2
  exact ⟨F, r, t, p.1, p.2, S0, e1, fun F' v H' E1 T1 R1 => f F' v H' (S0.done.trans E1) T1 R1⟩
theorem ss_retN : SS S W G wn (.Return none pos) (.ret (.con .non)) := fun X h => PS.weak ps_retN fun D σ H q => by
  obtain ⟨F, r, t, o, S0, ee, f⟩ := q
  rw [ex, ev] at ee
  cases ee
  exact f F .non H S0.done S0.tape rfl
theorem ss_exp (ha : SE S W G x a) (hs : ∀ l env, swapsWith x none l env = pure false := by intro _ _; rfl) : SS S W G wn (.Expr x pos) (.exp a) := fun X h => PS.weak (ps_expr (ha X h).v (hs _ _)) fun D σ H q => by
  obtain ⟨F, r, t, o, S0, ee, f⟩ := q
  rw [ex] at ee
  obtain ⟨p, e1, e2⟩ := Option.map_eq_some_iff.mp ee
  cases e2
  exact ⟨F, r, t, p.1, p.2, S0, e1, fun F' v H' E1 T1 R1 => f F' σ H' (E1.kp S0.pl) (S0.ext E1 T1)⟩
theorem ss_if {xs ys : List Stmt} (hc : SE S W G x c) (ha : SSs S W G wn xs us) (hb : SSs S W G wn ys us') : SS S W G wn (.If x xs ys pos) (.ife c us us') := fun X h => PS.weak (ps_if (hc X h).t (ha X h) (hb X h)) fun D σ H q => by
  obtain ⟨F, r, t, o, S0, ee, f⟩ := q
  rw [ex] at ee
  obtain ⟨⟨p, s1⟩, e1, e2⟩ := Option.bind_eq_some_iff.mp ee
  refine ⟨F, r, t, p, s1, S0, e1, fun F1 H1 E1 T1 => ?_⟩
  cases p with
  | true => exact ⟨F1, r, s1, o, S0.ext E1 T1, e2, f.kp (E1.kp S0.pl)⟩
  | false => exact ⟨F1, r, s1, o, S0.ext E1 T1, e2, f.kp (E1.kp S0.pl)⟩
/-! assignments -/
/-- a made thing, if it is to be one's own; else a value -/
def SM (S : Sc) (W : Wd) (G : Gl) (w : Bool) (x : Expr) (e : E) : Prop := if w = true then SF S W G x e else SE S W G x e
def gM (W : Wd) (G : Gl) (w : Bool) (e : E) : TE := if w = true then gF W G e else gV W G e
def Res (W : Wd) (H : Hp) (w : Bool) (F' : Addr → Prop) (H' : Hp) (d : D) (v : V) : Prop := if w = true then Own W H F' H' d v else Rep W F' H' d v
theorem SM.pe {w : Bool} (h : SM S W G w x e) (hX : Std S W G X) : PE X x (gM W G w e) := by
  cases w with
  | true => exact h X hX
  | false => exact (SEx.v ((show SE S W G x e from h) X hX))
end
end Ip

/-! IpL: assignments, loops, what changes one's own. -/
namespace Ip
open PySem PySem.Spec PyProof.Rows L2
section
variable {S : Sc} {W : Wd} {G : Gl} {wn : Nat} {X : Cx} {x y z tg : Expr} {a b c e : E} {pos : Pos} {st : Stmt} {sts : List Stmt} {u : Ip.S} {us us' : List Ip.S}
theorem Sim.setM {F F' : Addr → Prop} {r : Env} {s s' : T} {σ : L2.St} {H H' : Hp} {w : Bool} {d : D} {v : V} (S0 : Sim W F r s σ H) (E1 : Ext W F H F' H') (t : Tp W s' H') (i : Nat) (h : Res W H w F' H' d v) : Sim W F' (setO r i w d) s' (σ.set i (some v)) H' := by
  cases w with
  | true => exact S0.seto E1 t i h
  | false => exact (S0.ext E1 t).setv i h
theorem gM_of {w : Bool} {σ : L2.St} {H : Hp} {Q : VK} {F : Addr → Prop} {r : Env} {s : T} {d : D} {s' : T} (S0 : Sim W F r s σ H) (e1 : (ev G e r).v s = some (d, s')) (k : ∀ F' v H', Ext W F H F' H' → Tp W s' H' → Res W H w F' H' d v → Q v H') : gM W G w e σ H Q := by
  cases w with
  | true => exact ⟨F, r, s, d, s', S0, e1, k⟩
  | false => exact ⟨F, r, s, d, s', S0, e1, k⟩
structure Nm (S : Sc) (i : Nat) (n : Str) : Prop where
  hi : S.N[i]? = some n := by rfl
  hx : Loc S.sc n := by first | exact Or.inl rfl | exact Or.inr rfl
  hf : S.fn n = true ∨ S.sc.names.lookup n = some .local := by first | exact .inl rfl | exact .inr rfl
theorem ss_set (i : Nat) (w : Bool) {n : Str} {p : Pos} (h1 : SM S W G w x e) (hn : Nm S i n := by exact {}) (hs : ∀ l env, swapsWith x (some (.Name n p)) l env = pure false := by intro _ _; rfl) : SS S W G wn (.Assign [.Name n p] x pos) (.set i w e) := fun X h => by
  refine PS.weak (ps_set (i := i) (h.hN ▸ h.nd) (by rw [h.hN]; exact hn.hi) (by rw [h.hs]; exact hn.hx) (h1.pe h) (hs _ _) (by rw [h.hs]; exact hn.hf.imp (h.hf n) id)) fun D σ H q => ?_
  obtain ⟨F, r, t, o, S0, ee, f⟩ := q
  rw [ex] at ee
  obtain ⟨p, e1, e2⟩ := Option.map_eq_some_iff.mp ee
  cases e2
  exact gM_of S0 (d := p.1) (s' := p.2) e1 fun F' v H' E1 T1 R1 => f F' _ H' (E1.kp S0.pl) (S0.setM E1 T1 i R1)
theorem tLc_gM {wi : TI} {k : Ik} {es cs : List E} {t : Tg} {own : List Nat} {σ : L2.St} {H : Hp} {Q : VK} {w : Bool} (hv : ∀ i ∈ tgV t, i ∈ own) (hw : wi = iO W G k es) (q : gM W G w (.lc own t k es cs e) σ H Q) : tLc wi (gG W t) (gTs W G cs) (gV W G e) own σ H Q := by
  cases w with
  | true => exact lc_weak hv hw q
  | false =>
    obtain ⟨F, r, s, d, s', S0, ee, k⟩ := q
    refine lc_weak hv hw ⟨F, r, s, d, s', S0, ee, fun F' v H' E1 T1 O1 => ?_⟩
    obtain ⟨F2, E2, R2⟩ := Own.rep E1 O1
    exact k F2 v H' E2 T1 R2
theorem ss_setLc (i : Nat) (w : Bool) {n : Str} {p spos : Pos} {elt iter : Expr} {ifs : List Expr} {scope : Scope} {own : List (Str × Nat)} {t : Tg} {k : Ik} {es cs : List E} (L : Lc S W G elt tg iter ifs scope own t k es cs e) (hn : Nm S i n := by exact {})
    (hk : S.sc.kind = .function := by rfl) (hy : S.sc.names.lookup n = some .local := by rfl) (hl : (p.line == pos.line) = true := by rfl) (ha : (scope.names.any fun (m, k) => m == n && (k == .local || k == .cell)) = false := by rfl) :
    SS S W G wn (.Assign [.Name n p] (.ListComp elt [⟨tg, iter, ifs, 0⟩] scope pos) spos) (.set i w (.lc (own.map (·.2)) t k es cs e)) := fun X h => by
  refine PS.weak (ps_setLc (i := i) h.calm (h.hN ▸ h.nd) (by rw [h.hN]; exact hn.hi) (by rw [h.hs]; exact hy) (sw_true (by rw [h.hs]; exact hk) (by rw [h.hs]; exact hy) hl ha) (L.hi X h).o (by rw [h.hN, h.hs]; exact L.ok)
    (fun s H C cl fp => L.hg W G _ (h.blk s H C cl fp)) (fun s H C cl fp => L.ht _ (h.blk s H C cl fp)) (fun s H C cl fp => (L.he _ (h.blk s H C cl fp)).v) (L.hs _)) fun D σ H q => ?_
  obtain ⟨F, r, t, o, S0, ee, f⟩ := q
  rw [ex] at ee
  obtain ⟨p, e1, e2⟩ := Option.map_eq_some_iff.mp ee
  cases e2
  refine tLc_gM L.hv rfl (gM_of (w := w) S0 (d := p.1) (s' := p.2) e1 fun F' v H' E1 T1 R1 => f F' _ H' (E1.kp S0.pl) (S0.setM E1 T1 i R1))
theorem ss_par2 (i j : Nat) (w1 w2 : Bool) {n m : Str} {px py pt pt2 : Pos} {kt k2 : Nat} (h1 : SM S W G w1 x a) (h2 : SM S W G w2 y b) (hi : S.N[i]? = some n := by rfl) (hj : S.N[j]? = some m := by rfl) (hij : i ≠ j := by decide)
    (hx : S.sc.names.lookup n = some .local := by rfl) (hy : S.sc.names.lookup m = some .local := by rfl)
    (hw : ∀ env : PySem.Env, env.scope = S.sc → swappedStores [.Tuple [.Name n px, .Name m py] kt pt] (.Tuple [x, y] k2 pt2) env = pure (some [n, m]) := by intro env he; cases env; cases he; rfl)
    (hst : ∀ env, starEach [x, y] env = (false, eval x env) :: starEach [y] env := by intro _; rfl) (hst2 : ∀ env, starEach [y] env = (false, eval y env) :: starEach [] env := by intro _; rfl) :
    SS S W G wn (.Assign [.Tuple [.Name n px, .Name m py] kt pt] (.Tuple [x, y] k2 pt2) pos) (.par [(i, w1), (j, w2)] [a, b]) := fun X h => by
  refine PS.weak (ps_par h.calm (h.hN ▸ h.nd) (by rw [h.hN]; exact hi) (by rw [h.hN]; exact hj) hij (by rw [h.hs]; exact hx) (by rw [h.hs]; exact hy) (pa_cons (h1.pe h) (pa_cons (h2.pe h) pa_nil (hst2 _)) (hst _)) (hw _ h.hs)) fun D σ H q => ?_
  obtain ⟨F, r, t, o, S0, ee, f⟩ := q
  rw [ex] at ee
  obtain ⟨p, e1, e2⟩ := Option.bind_eq_some_iff.mp ee
  obtain ⟨r', e3, e4⟩ := Option.map_eq_some_iff.mp e2
  cases e4
  rw [evs] at e1
  obtain ⟨q1, f1, f2⟩ := Option.bind_eq_some_iff.mp e1
  obtain ⟨q2, f3, f4⟩ := Option.map_eq_some_iff.mp f2
  cases f4
  rw [evs] at f3
  obtain ⟨q3, f5, f6⟩ := Option.bind_eq_some_iff.mp f3
  obtain ⟨q4, f7, f8⟩ := Option.map_eq_some_iff.mp f6
  rw [evs] at f7
  cases f7
  cases f8
  simp only [setOs] at e3
  cases e3
  refine gM_of S0 (d := q1.1) (s' := q1.2) f1 fun F1 v1 H1 E1 T1 R1 => gM_of (S0.ext E1 T1) (d := q3.1) (s' := q3.2) f5 fun F2 v2 H2 E2 T2 R2 => ?_
  exact ⟨v1, v2, rfl, f F2 _ H2 ((E1.trans E2).kp S0.pl) ((S0.setM E1 T1 i R1).setM E2 T2 j R2)⟩
theorem ss_par3 (i j l : Nat) (w1 w2 w3 : Bool) {n m o : Str} {px py pz pt pt2 : Pos} {kt k2 : Nat} (h1 : SM S W G w1 x a) (h2 : SM S W G w2 y b) (h3 : SM S W G w3 z c) (hi : S.N[i]? = some n := by rfl) (hj : S.N[j]? = some m := by rfl) (hl : S.N[l]? = some o := by rfl) (hij : i ≠ j := by decide) (hil : i ≠ l := by decide) (hjl : j ≠ l := by decide)
    (hx : S.sc.names.lookup n = some .local := by rfl) (hy : S.sc.names.lookup m = some .local := by rfl) (hz : S.sc.names.lookup o = some .local := by rfl)
    (hw : ∀ env : PySem.Env, env.scope = S.sc → swappedStores [.Tuple [.Name n px, .Name m py, .Name o pz] kt pt] (.Tuple [x, y, z] k2 pt2) env = pure (some [n, m, o]) := by intro env he; cases env; cases he; rfl)
    (hst : ∀ env, starEach [x, y, z] env = (false, eval x env) :: starEach [y, z] env := by intro _; rfl) (hst2 : ∀ env, starEach [y, z] env = (false, eval y env) :: starEach [z] env := by intro _; rfl) (hst3 : ∀ env, starEach [z] env = (false, eval z env) :: starEach [] env := by intro _; rfl) :
    SS S W G wn (.Assign [.Tuple [.Name n px, .Name m py, .Name o pz] kt pt] (.Tuple [x, y, z] k2 pt2) pos) (.par [(i, w1), (j, w2), (l, w3)] [a, b, c]) := fun X h => by
  refine PS.weak (ps_par3 h.calm (h.hN ▸ h.nd) (by rw [h.hN]; exact hi) (by rw [h.hN]; exact hj) (by rw [h.hN]; exact hl) hij hil hjl (by rw [h.hs]; exact hx) (by rw [h.hs]; exact hy) (by rw [h.hs]; exact hz) (pa_cons (h1.pe h) (pa_cons (h2.pe h) (pa_cons (h3.pe h) pa_nil (hst3 _)) (hst2 _)) (hst _)) (hw _ h.hs)) fun D σ H q => ?_
  obtain ⟨F, r, t, o, S0, ee, f⟩ := q
  rw [ex] at ee
  obtain ⟨p, e1, e2⟩ := Option.bind_eq_some_iff.mp ee
  obtain ⟨r', e3, e4⟩ := Option.map_eq_some_iff.mp e2
  cases e4
  rw [evs] at e1
  obtain ⟨q1, f1, f2⟩ := Option.bind_eq_some_iff.mp e1
  obtain ⟨q2, f3, f4⟩ := Option.map_eq_some_iff.mp f2
  cases f4
  rw [evs] at f3
  obtain ⟨q3, f5, f6⟩ := Option.bind_eq_some_iff.mp f3
  obtain ⟨q4, f7, f8⟩ := Option.map_eq_some_iff.mp f6
  cases f8
  rw [evs] at f7
  obtain ⟨q5, f9, f10⟩ := Option.bind_eq_some_iff.mp f7
  obtain ⟨q6, f11, f12⟩ := Option.map_eq_some_iff.mp f10
  rw [evs] at f11
  cases f11
  cases f12
  simp only [setOs] at e3
  cases e3
  refine gM_of S0 (d := q1.1) (s' := q1.2) f1 fun F1 v1 H1 E1 T1 R1 => gM_of (S0.ext E1 T1) (d := q3.1) (s' := q3.2) f5 fun F2 v2 H2 E2 T2 R2 => gM_of ((S0.ext E1 T1).ext E2 T2) (d := q5.1) (s' := q5.2) f9 fun F3 v3 H3 E3 T3 R3 => ?_
  exact ⟨v1, v2, v3, rfl, f F3 _ H3 (((E1.trans E2).trans E3).kp S0.pl) (((S0.setM E1 T1 i R1).setM E2 T2 j R2).setM E3 T3 l R3)⟩
/-- names set by way of a tuple object -/
theorem ss_parT2 (i j : Nat) (w1 w2 : Bool) {n m : Str} {px py pt pt2 : Pos} {kt k2 : Nat} (h1 : SM S W G w1 x a) (h2 : SM S W G w2 y b) (hn : Nm S i n := by exact {}) (hm : Nm S j m := by exact {})
    (hw : ∀ env : PySem.Env, env.scope = S.sc → swappedStores [.Tuple [.Name n px, .Name m py] kt pt] (.Tuple [x, y] k2 pt2) env = pure none := by intro env he; cases env; cases he; rfl)
    (hst : ∀ env, starEach [x, y] env = (false, eval x env) :: starEach [y] env := by intro _; rfl) (hst2 : ∀ env, starEach [y] env = (false, eval y env) :: starEach [] env := by intro _; rfl) :
    SS S W G wn (.Assign [.Tuple [.Name n px, .Name m py] kt pt] (.Tuple [x, y] k2 pt2) pos) (.par [(i, w1), (j, w2)] [a, b]) := fun X h => by
  have hp : ∀ {n : Str} {i : Nat} {p : Pos}, Nm S i n → PG X (.Name n p) (gName i) := fun {n i p} hn => pg_name (i := i) (h.hN ▸ h.nd) (by rw [h.hN]; exact hn.hi) (by rw [h.hs]; exact hn.hx) (by rw [h.hs]; exact hn.hf.imp (h.hf n) id)
  refine PS.weak (ps_asg (pe_tup (pa_cons (h1.pe h) (pa_cons (h2.pe h) pa_nil (hst2 _)) (hst _))) (pg_tup (n := 2) h.calm (pgs_cons (hp hn) (pgs_cons (hp hm) pgs_nil rfl) rfl) rfl rfl) rfl (hw _ h.hs) rfl) fun D σ H q => ?_
  obtain ⟨F, r, t, o, S0, ee, f⟩ := q
  rw [ex] at ee
  obtain ⟨p, e1, e2⟩ := Option.bind_eq_some_iff.mp ee
  obtain ⟨r', e3, e4⟩ := Option.map_eq_some_iff.mp e2
  cases e4
  rw [evs] at e1
  obtain ⟨q1, f1, f2⟩ := Option.bind_eq_some_iff.mp e1
  obtain ⟨q2, f3, f4⟩ := Option.map_eq_some_iff.mp f2
  cases f4
  rw [evs] at f3
  obtain ⟨q3, f5, f6⟩ := Option.bind_eq_some_iff.mp f3
  obtain ⟨q4, f7, f8⟩ := Option.map_eq_some_iff.mp f6
  rw [evs] at f7
  cases f7
  cases f8
  simp only [setOs] at e3
  cases e3
  refine gM_of S0 (d := q1.1) (s' := q1.2) f1 fun F1 v1 H1 E1 T1 R1 => gM_of (S0.ext E1 T1) (d := q3.1) (s' := q3.2) f5 fun F2 v2 H2 E2 T2 R2 => ⟨by rw [← szL_eq]; show 2 ≤ szL; decide, fun p hp => ?_⟩
  have S2 := (S0.setM E1 T1 i R1).setM E2 T2 j R2
  have E3 : Ext W F2 H2 F2 (upd H2 p (.tup [v1, v2])) := Ext.laid E2.live hp
  exact ⟨p, [v1, v2], rfl, SqT.of upd_same, rfl, v1, [v2], rfl, v2, [], rfl, rfl, f F2 _ _ (((E1.trans E2).trans E3).kp S0.pl) (S2.ext E3 (T2.laid hp))⟩
theorem ss_parT3 (i j l : Nat) (w1 w2 w3 : Bool) {n m o : Str} {px py pz pt pt2 : Pos} {kt k2 : Nat} (h1 : SM S W G w1 x a) (h2 : SM S W G w2 y b) (h3 : SM S W G w3 z c) (hn : Nm S i n := by exact {}) (hm : Nm S j m := by exact {}) (ho : Nm S l o := by exact {})
    (hw : ∀ env : PySem.Env, env.scope = S.sc → swappedStores [.Tuple [.Name n px, .Name m py, .Name o pz] kt pt] (.Tuple [x, y, z] k2 pt2) env = pure none := by intro env he; cases env; cases he; rfl)
    (hst : ∀ env, starEach [x, y, z] env = (false, eval x env) :: starEach [y, z] env := by intro _; rfl) (hst2 : ∀ env, starEach [y, z] env = (false, eval y env) :: starEach [z] env := by intro _; rfl) (hst3 : ∀ env, starEach [z] env = (false, eval z env) :: starEach [] env := by intro _; rfl) :
    SS S W G wn (.Assign [.Tuple [.Name n px, .Name m py, .Name o pz] kt pt] (.Tuple [x, y, z] k2 pt2) pos) (.par [(i, w1), (j, w2), (l, w3)] [a, b, c]) := fun X h => by
  have hp : ∀ {n : Str} {i : Nat} {p : Pos}, Nm S i n → PG X (.Name n p) (gName i) := fun {n i p} hn => pg_name (i := i) (h.hN ▸ h.nd) (by rw [h.hN]; exact hn.hi) (by rw [h.hs]; exact hn.hx) (by rw [h.hs]; exact hn.hf.imp (h.hf n) id)
  refine PS.weak (ps_asg (pe_tup (pa_cons (h1.pe h) (pa_cons (h2.pe h) (pa_cons (h3.pe h) pa_nil (hst3 _)) (hst2 _)) (hst _))) (pg_tup (n := 3) h.calm (pgs_cons (hp hn) (pgs_cons (hp hm) (pgs_cons (hp ho) pgs_nil rfl) rfl) rfl) rfl rfl) rfl (hw _ h.hs) rfl) fun D σ H q => ?_
  obtain ⟨F, r, t, o, S0, ee, f⟩ := q
  rw [ex] at ee
  obtain ⟨p, e1, e2⟩ := Option.bind_eq_some_iff.mp ee
  obtain ⟨r', e3, e4⟩ := Option.map_eq_some_iff.mp e2
  cases e4
  rw [evs] at e1
  obtain ⟨q1, f1, f2⟩ := Option.bind_eq_some_iff.mp e1
  obtain ⟨q2, f3, f4⟩ := Option.map_eq_some_iff.mp f2
  cases f4
  rw [evs] at f3
  obtain ⟨q3, f5, f6⟩ := Option.bind_eq_some_iff.mp f3
  obtain ⟨q4, f7, f8⟩ := Option.map_eq_some_iff.mp f6
  cases f8
  rw [evs] at f7
  obtain ⟨q5, f9, f10⟩ := Option.bind_eq_some_iff.mp f7
  obtain ⟨q6, f11, f12⟩ := Option.map_eq_some_iff.mp f10
  rw [evs] at f11
  cases f11
  cases f12
  simp only [setOs] at e3
  cases e3
  refine gM_of S0 (d := q1.1) (s' := q1.2) f1 fun F1 v1 H1 E1 T1 R1 => gM_of (S0.ext E1 T1) (d := q3.1) (s' := q3.2) f5 fun F2 v2 H2 E2 T2 R2 => gM_of ((S0.ext E1 T1).ext E2 T2) (d := q5.1) (s' := q5.2) f9 fun F3 v3 H3 E3 T3 R3 => ⟨by rw [← szL_eq]; show 3 ≤ szL; decide, fun p hp => ?_⟩
  have S3 := ((S0.setM E1 T1 i R1).setM E2 T2 j R2).setM E3 T3 l R3
  have E4 : Ext W F3 H3 F3 (upd H3 p (.tup [v1, v2, v3])) := Ext.laid E3.live hp
  exact ⟨p, [v1, v2, v3], rfl, SqT.of upd_same, rfl, v1, [v2, v3], rfl, v2, [v3], rfl, v3, [], rfl, rfl, f F3 _ _ ((((E1.trans E2).trans E3).trans E4).kp S0.pl) (S3.ext E4 (T3.laid hp))⟩
/-- a value to a target of any shape -/
theorem ss_tgt {t : Tg} (h1 : SE S W G x e) (h2 : SG S y t) (hs : ∀ l env, swapsWithSole [y] x l env = pure false := by intro _ _; rfl) (hw : ∀ env : PySem.Env, env.scope = S.sc → swappedStores [y] x env = pure none := by intro env he; cases env; cases he; rfl)
    (h3 : ∀ env, (assignEach [y] env).map (·.2) = [assign y env] := by intro _; rfl) : SS S W G wn (.Assign [y] x pos) (.tgt [t] e) := fun X h => by
  refine PS.weak (ps_asg (h1 X h).v (h2 W G X h) (hs _ _) (hw _ h.hs) (h3 _)) fun D σ H q => ?_
  obtain ⟨F, r, t, o, S0, ee, f⟩ := q
  rw [ex] at ee
  obtain ⟨p, e1, e2⟩ := Option.bind_eq_some_iff.mp ee
  obtain ⟨r', e3, e4⟩ := Option.map_eq_some_iff.mp e2
  cases e4
  simp only [bindAll] at e3
  obtain ⟨r2, e5, e6⟩ := Option.bind_eq_some_iff.mp e3
  cases e6
  exact ⟨F, r, _, p.1, p.2, S0, e1, fun F' v H' E1 T1 R1 => ⟨F', r, p.2, p.1, r', S0.ext E1 T1, R1, e5, fun σ' S' _ => f F' σ' H' (E1.kp S0.pl) S'⟩⟩
def augI : Op → Int → Int → Int
  | .add, i, j => i + j
  | _, i, j => i - j
theorem aug_iff {o : Op} (ho : (o = .add) ∨ (o = .sub)) {x0 d : D} {k : Int} (h : binD o x0 d = some (.int k)) : ∃ i j : Int, x0 = .int i ∧ d = .int j ∧ k = augI o i j := by
  rcases ho with rfl | rfl <;> cases x0 <;> cases d <;> simp only [binD] at h
  all_goals first | cases h | (split at h <;> cases h)
  · exact ⟨_, _, rfl, rfl, rfl⟩
  · exact ⟨_, _, rfl, rfl, rfl⟩
theorem ss_tgt2 {t t2 : Tg} (h1 : SE S W G x e) (h2 : SG S y t) (h4 : SG S z t2) (ha : ∀ env, (assignEach [y, z] env).map (·.2) = [assign y env, assign z env] := by intro _; rfl) (hw : ∀ env : PySem.Env, env.scope = S.sc → swappedStores [y, z] x env = pure none := by intro env he; cases env; cases he; rfl) : SS S W G wn (.Assign [y, z] x pos) (.tgt [t, t2] e) := fun X h => by
  refine PS.weak (ps_asg2 (h1 X h).v (h2 W G X h) (h4 W G X h) (ha _) (hw _ h.hs)) fun D σ H q => ?_
  obtain ⟨F, r, t, o, S0, ee, f⟩ := q
  rw [ex] at ee
  obtain ⟨p, e1, e2⟩ := Option.bind_eq_some_iff.mp ee
  obtain ⟨r', e3, e4⟩ := Option.map_eq_some_iff.mp e2
  cases e4
  simp only [bindAll] at e3
  obtain ⟨r2, e5, e6⟩ := Option.bind_eq_some_iff.mp e3
  obtain ⟨r3, e7, e8⟩ := Option.bind_eq_some_iff.mp e6
  cases e8
  exact ⟨F, r, _, p.1, p.2, S0, e1, fun F' v H' E1 T1 R1 => ⟨F', r, p.2, p.1, r2, S0.ext E1 T1, R1, e5, fun σ' S' _ => ⟨F', r2, p.2, p.1, r', S', R1, e7, fun σ2 S2 _ => f F' σ2 H' (E1.kp S0.pl) S2⟩⟩⟩
theorem ss_aug {o : Op} (i : Nat) {n : Str} {p : Pos} (ho : (o = .add) ∨ (o = .sub)) (h1 : SE S W G x e) (hn : Nm S i n := by exact {}) : SS S W G wn (.AugAssign (.Name n p) (opOf o) x pos) (.aug i o e) := fun X h => by
  have hip : PIp X (opOf o) (ipI (augI o)) := by
    rcases ho with rfl | rfl
    · exact ip_add
    · exact ip_sub
  refine PS.weak (ps_aug (i := i) (h.hN ▸ h.nd) (by rw [h.hN]; exact hn.hi) (by rw [h.hs]; exact hn.hx) (h1 X h).o hip (by rw [h.hs]; exact hn.hf.imp (h.hf n) id)) fun D σ H q => ?_
  obtain ⟨F, r, t, q, S0, ee, f⟩ := q
  rw [ex] at ee
  obtain ⟨x0, e0, ee⟩ := Option.bind_eq_some_iff.mp ee
  obtain ⟨p, e1, e2⟩ := Option.bind_eq_some_iff.mp ee
  obtain ⟨d, e3, e4⟩ := Option.bind_eq_some_iff.mp e2
  obtain ⟨v, e5, R0⟩ := S0.rep e0
  split at e4
  · rename_i k
    cases e4
    obtain ⟨i1, j1, rfl, e6, rfl⟩ := aug_iff ho e3
    refine ⟨v, e5, F, r, t, p.1, p.2, S0, e1, fun F' y H' E1 T1 O1 => ?_⟩
    rw [e6] at O1
    exact ⟨i1, j1, R0.top.int, O1.1.int, f F' _ H' (E1.kp S0.pl) ((S0.ext E1 T1).setv i rfl)⟩
  · cases e4
end
end Ip

/-! IpM: loops; one's own lists changed; freezing. -/
namespace Ip
open PySem PySem.Spec PyProof.Rows L2
section
variable {S : Sc} {W : Wd} {G : Gl} {wn : Nat} {X : Cx} {x y z tg : Expr} {a b c e : E} {pos : Pos} {st : Stmt} {sts : List Stmt} {u : Ip.S} {us us' : List Ip.S}
theorem ss_for {t : Tg} {k : Ik} {es : List E} (hi : SI S W G tg x k es) (hg : SG S tg t) (hb : SSs S W G wn sts us) (hs : ∀ env v, foldedSetIterable x env v = pure v := by intro _ _; rfl) : SS S W G wn (.For tg x sts [] pos) (.for_ t k es us) := fun X h => by
  refine PS.weak (ps_for h.po h.calm (hi X h).v (hg W G X h) (hb X h) (hs _)) fun D σ H q => ?_
  obtain ⟨F, r, s, o, S0, ee, f⟩ := q
  rw [ex] at ee
  obtain ⟨p, e1, e2⟩ := Option.bind_eq_some_iff.mp ee
  obtain ⟨xs, e3, e4⟩ := Option.bind_eq_some_iff.mp e2
  refine ⟨F, r, s, p.1, p.2, xs, S0, e1, e3, fun F1 H1 J L E1 T1 w1 hf => ?_⟩
  have k1 := E1.kp S0.pl
  refine for_it w1.w (fun i σ2 H2 => ∃ F2 r2 s2, Kp F1 H1 F2 H2 ∧ Sim W F2 r2 s2 σ2 H2 ∧ forF (fun x r s => (bindT t x r).bind fun r' => exs G wn us r' s) (xs.drop i) r2 s2 = some o) ?_ ?_ ?_ ?_
  · exact ⟨F1, r, p.2, Kp.refl, S0.ext E1 T1, e4⟩
  · rintro i σ2 H2 _ ⟨F2, r2, s2, k2, _, _⟩ b hb
    exact k2.2 b (hf b hb)
  · rintro i v σ2 H2 H3 hi ⟨F2, r2, s2, k2, S2, el⟩ yy
    obtain ⟨xd, hxd⟩ : ∃ xd, xs[i]? = some xd := ⟨xs[i], by simp [hi]⟩
    have hdrop : xs.drop i = xd :: xs.drop (i + 1) := by
      rw [List.drop_eq_getElem_cons hi]
      congr 1
      rw [List.getElem?_eq_getElem hi] at hxd
      exact Option.some.inj hxd
    obtain ⟨F3, E3, T3, R3⟩ := Yl.rep S2.pl (yy xd hxd F2 k2.1 k2.2 S2.f2)
    rw [hdrop, forF] at el
    obtain ⟨o1, f1, f2⟩ := Option.bind_eq_some_iff.mp el
    obtain ⟨r', g1, g2⟩ := Option.bind_eq_some_iff.mp f1
    have k3 := k2.trans (E3.kp S2.pl)
    refine ⟨F3, r2, s2, xd, r', S2.ext E3 T3, R3, g1, fun σ' S' _ => ⟨F3, r', s2, o1, S', g2, ?_⟩⟩
    cases o1 with
    | nx r1 s1 => exact fun F' σ3 H' k' S3 => ⟨F', r1, s1, k3.trans k', S3, f2⟩
    | ct r1 s1 => exact fun F' σ3 H' k' S3 => ⟨F', r1, s1, k3.trans k', S3, f2⟩
    | bk r1 s1 => cases f2; exact fun F' σ3 H' k' S3 => f F' σ3 H' ((k1.trans k3).trans k') S3
    | rt d s1 => cases f2; exact f
  · rintro σ2 H2 ⟨F2, r2, s2, k2, S2, el⟩
    rw [List.drop_length, forF] at el
    cases el
    exact f F2 σ2 H2 (k1.trans k2) S2
theorem ss_whl (hc : SE S W G x c) (hb : SSs S W G wn sts us) : SS S W G wn (.While x sts [] pos) (.whl c us) := fun X h => by
  refine PS.weak (ps_while h.po (hc X h).t (hb X h)) fun D σ H q => ?_
  obtain ⟨F, r, s, o, S0, ee, f⟩ := q
  rw [ex] at ee
  refine ⟨fun m σ2 H2 => ∃ F2 r2 s2, Kp F H F2 H2 ∧ Sim W F2 r2 s2 σ2 H2 ∧ whF (fun r s => ((ev G c r).t s).bind fun p => if p.1 then (exs G wn us r p.2).map fun x => (true, x) else some (false, .nx r p.2)) m r2 s2 = some o, ⟨wn, F, r, s, Kp.refl, S0, ee⟩, ?_⟩
  rintro m σ2 H2 ⟨F2, r2, s2, k2, S2, el⟩
  cases m with
  | zero => rw [whF] at el; cases el
  | succ m =>
    rw [whF] at el
    obtain ⟨yy, f1, f2⟩ := Option.bind_eq_some_iff.mp el
    obtain ⟨⟨p, s3⟩, g1, g2⟩ := Option.bind_eq_some_iff.mp f1
    refine ⟨F2, r2, s2, p, s3, S2, g1, fun F3 H3 E3 T3 => ?_⟩
    have k3 := k2.trans (E3.kp S2.pl)
    cases p with
    | false =>
      dsimp only at g2
      rw [if_neg (by decide)] at g2
      cases g2
      cases f2
      exact iteF (f F3 σ2 H3 k3 (S2.ext E3 T3))
    | true =>
      dsimp only at g2
      rw [if_pos rfl] at g2
      obtain ⟨o1, g3, g4⟩ := Option.map_eq_some_iff.mp g2
      cases g4
      dsimp only at f2
      rw [if_pos rfl] at f2
      refine iteT ⟨fun σ' H' => ∃ F2 r2 s2, Kp F H F2 H' ∧ Sim W F2 r2 s2 σ' H' ∧ whF (fun r s => ((ev G c r).t s).bind fun p => if p.1 then (exs G wn us r p.2).map fun x => (true, x) else some (false, .nx r p.2)) m r2 s2 = some o, fun σ' H' n => ⟨m, Nat.lt_succ_self m, n⟩, F3, r2, s3, o1, S2.ext E3 T3, g3, ?_⟩
      cases o1 with
      | nx r1 s1 => exact fun F' σ3 H' k' S3 => ⟨F', r1, s1, k3.trans k', S3, f2⟩
      | ct r1 s1 => exact fun F' σ3 H' k' S3 => ⟨F', r1, s1, k3.trans k', S3, f2⟩
      | bk r1 s1 => cases f2; exact fun F' σ3 H' k' S3 => f F' σ3 H' (k3.trans k') S3
      | rt d s1 => cases f2; exact f

/-! one's own lists -/
theorem ownL_at {r : Env} {i : Nat} {xs : List D} (h : ownL r i = some xs) : r[i]? = some (some (true, .lst xs)) := by
  unfold ownL at h
  split at h
  · rename_i q
    cases h
    exact q
  · cases h
theorem Sim.write {F : Addr → Prop} {r : Env} {s : T} {σ : L2.St} {H : Hp} {i : Nat} {p : Addr} {xs ys : List D} {vs : List V} (S0 : Sim W F r s σ H) (hr : r[i]? = some (some (true, .lst xs))) (hσ : σ[i]? = some (some (.ref p))) (hz : vs.length ≤ sizeLine) (R : RepL W F H ys vs) :
    Sim W F (r.set i (some (true, .lst ys))) s σ (upd H p (.lst vs)) ∧ Kp F H F (upd H p (.lst vs)) := by
  obtain ⟨p', e', _, nf, z0, hn, n1, n2⟩ := S0.own i _ hr
  rw [hσ] at e'
  cases e'
  have hl : i < r.length := by
    by_cases h : i < r.length
    · exact h
    · rw [List.getElem?_eq_none (by omega)] at hr; cases hr
  have kF : ∀ q, F q → upd H p (.lst vs) q = H q := fun q f => upd_ne fun e : q = p => nf (e ▸ f)
  have oth : ∀ (j : Nat) (d' : D) (q : Addr), j ≠ i → r[j]? = some (some (true, d')) → σ[j]? = some (some (.ref q)) → q ≠ p := fun j d' q hj h1 h2 e => S0.dis j i d' _ p hj h1 hr (e ▸ h2) hσ
  have had : ∀ (j : Nat) (d' : D), (r.set i (some (true, .lst ys)))[j]? = some (some (true, d')) → ∃ d'', r[j]? = some (some (true, d'')) := fun j d' h => by
    rcases set_some h with ⟨rfl, _, _⟩ | ⟨_, h⟩
    · exact ⟨_, hr⟩
    · exact ⟨_, h⟩
  refine ⟨?_, fun _ h => h, kF⟩
  exact {
    len := by rw [List.length_set]; exact S0.len
    val := fun j d h => by
      rcases set_some h with ⟨_, e, _⟩ | ⟨_, h⟩
      · cases e
      · obtain ⟨v, e1, q⟩ := S0.val j d h
        exact ⟨v, e1, Rep.mono (fun _ h => h) kF d v q⟩
    own := fun j d h => by
      rcases set_some h with ⟨rfl, e, _⟩ | ⟨nj, h⟩
      · cases e
        exact ⟨p, hσ, ⟨p, vs, rfl, hz, upd_same, RepL.mono (fun _ h => h) kF _ _ R⟩, nf, z0, by rw [upd_same]; simp, n1, n2⟩
      · obtain ⟨q, e1, tp, f1, f2, f3, f4⟩ := S0.own j d h
        have nq := oth j d q nj h e1
        refine ⟨q, e1, Top.mono (fun _ h => h) kF (fun b o eb hb => ?_) tp, f1, f2, by rw [upd_ne nq]; exact f3, f4⟩
        cases eb
        rw [upd_ne nq]
        exact hb
    dis := fun j k d d' q hjk h1 h2 h3 h4 => by
      obtain ⟨d1, h1⟩ := had j d h1
      obtain ⟨d2, h2⟩ := had k d' h2
      exact S0.dis j k d1 d2 q hjk h1 h2 h3 h4
    old := fun q o h m1 m2 => by rw [upd_ne (ne_of_none h z0)]; exact S0.old q o h m1 m2
    f0 := S0.f0
    f1 := S0.f1
    f2 := fun q h => by rw [kF q h]; exact S0.f2 q h
    f3 := S0.f3
    tape := S0.tape.over n1 n2 }
theorem Sim.own_at {F : Addr → Prop} {r : Env} {s : T} {σ : L2.St} {H : Hp} {i : Nat} {xs : List D} (S0 : Sim W F r s σ H) (hr : ownL r i = some xs) : ∃ p vs, σ[i]? = some (some (.ref p)) ∧ vs.length ≤ sizeLine ∧ H p = some (.lst vs) ∧ RepL W F H xs vs := by
  obtain ⟨p, e1, tp, _⟩ := S0.own i _ (ownL_at hr)
  obtain ⟨p', vs, e2, z, q, R⟩ := tp.lst
  cases e2
  exact ⟨p, vs, e1, z, q, R⟩
theorem few_one {env : PySem.Env} {cpos : Pos} (st : starEach [x] env = [(false, eval x env)]) : ((backTo cpos (starEach [x] env)).all (fun x => !x.1) && (backToKw cpos (keywordEach [] env)).all (fun x => x.1.isSome)
      && decide (([x] : List Expr).length + ([] : List Keyword).length + (if ([] : List Keyword).isEmpty then 0 else 1) < 30)) = true := by
  rw [st]
  rfl
theorem ss_app (i : Nat) {n m : Str} {p ap : Pos} {cp : Pos} (h1 : SE S W G x e) (hi : S.N[i]? = some n := by rfl) (hv : Vis S.sc n := by first | exact Or.inl rfl | exact Or.inr (Or.inl rfl) | exact Or.inr (Or.inr rfl)) (hm : m = "append" := by rfl) (hd : (n == ("__debug__" : Str)) = false := by decide) (hcd : (n == ("__classdict__" : Str)) = false := by decide)
    (hline : (ap.endLine == cp.line) = true := by rfl) (hst : ∀ env, starEach [x] env = [(false, eval x env)] := by intro _; rfl) : SS S W G wn (.Expr (.Call (.Attribute (.Name n p) m ap) [x] [] cp) pos) (.app i e) := fun X h => by
  subst hm
  have pv : PE X (.Name n p) (tVar i) := pe_var (by rw [h.hN]; exact hi) (by rw [h.hs]; exact hv) hd hcd
  refine PS.weak (ps_expr (pe_bm PySem.F.plainAttrs_list PySem.F.slot_list_append PySem.F.type_list_append mt_append pv (pa_cons (h1 X h).v pa_nil (hst _)) rfl (few_one (hst _)) hline (hst _) rfl) rfl) fun D σ H q => ?_
  obtain ⟨F, r, t, o, S0, ee, f⟩ := q
  rw [ex] at ee
  obtain ⟨q, e1, e2⟩ := Option.bind_eq_some_iff.mp ee
  obtain ⟨xs, e3, e4⟩ := Option.bind_eq_some_iff.mp e2
  split at e4
  · rename_i hlt
    cases e4
    obtain ⟨pp, vs, s1, z, q1, R1⟩ := S0.own_at e3
    refine ⟨_, s1, .inl ⟨rfl, vs, SqL.of q1⟩, F, r, t, q.1, q.2, S0, e1, fun F' v H' E1 T1 R' => ?_⟩
    have S1 := S0.ext E1 T1
    obtain ⟨pp', vs', s1', z', q1', R1'⟩ := S1.own_at e3
    rw [s1] at s1'
    cases s1'
    have hlt' : vs'.length < sizeLine := by rw [R1'.length, ← szL_eq]; exact hlt
    refine ⟨pp, vs', v, rfl, rfl, q1', hlt', ?_⟩
    obtain ⟨S2, k2⟩ := S1.write (ownL_at e3) s1 (vs := vs' ++ [v]) (ys := xs ++ [q.1]) (by rw [List.length_append, List.length_singleton]; omega) (RepL.append R1' ⟨v, [], rfl, R', rfl⟩)
    exact f F' σ _ ((E1.kp S0.pl).trans k2) S2
  · cases e4
theorem list_extT (l : Addr) (items : Array Value) (n : Nat) (b : Addr) (items2 : Array Value) (n2 : Nat) (dd : Option Addr) (sl : Array (Option Value)) (hs0 : ¬(!items.isEmpty && Builtin.List.listTooLong (items.size + items2.size)) = true) (hs1 : items.size ≤ sizeLine) (hs2 : items.size + items2.size ≤ sizeLine + 1) :
    PySem.Meets (Builtin.«list.extend» ⟨[.ref l, .ref b], []⟩) (fun _ R s => s.heap.get? l = some { cls := .type "list", dict := none, data := .seq items n, slots := #[] } ∧ s.heap.get? b = some { cls := .type "tuple", dict := dd, data := .seq items2 n2, slots := sl } ∧ R (.ok (.ret Value.none)) { s with heap := s.heap.update l (Obj.mapSeq fun x => x ++ items2), toks := s.toks }) :=
  .of_wp fun prog w A R s h => by
    obtain ⟨hp, g, d, tk, os⟩ := s
    obtain ⟨hl, hb, h⟩ := h
    have f1 := AutoSeq1.idx_int
    have f2 := AutoSeq1.sub_tuple_tuple
    have f3 := AutoSeq1.sub_list_list
    have f4 := AutoSeq1.sub_tuple_list
    have f5 := AutoSeq1.sub_list_tuple
    have hz' : (items ++ items2).size ≤ sizeLine + 1 := by rw [Array.size_append]; exact hs2
    wp_walk using (wpAny_updateSeq hl rfl (hz := hs1) (_hz' := hz')), wpAny_loadPart' hl, wpAny_loadPart' hb
    exact ⟨_, rfl, h⟩
/-- extend by a tuple -/
def rExtT (K : PySem.W.Frag) : V → List V → Hp → VK → Prop := fun x vs H Q => ∃ l b xs zs, x = .ref l ∧ vs = [.ref b] ∧ H l = some (.lst xs) ∧ SqT K H b zs ∧ xs.length + zs.length ≤ sizeLine ∧ Q .non (upd H l (.lst (xs ++ zs)))
theorem mt_extT : MtM X "list.extend" (rExtT X.K) := by
  intro pins s σ H x vs v us Q I rx rv h
  obtain ⟨l, b, xs, zs, rfl, rfl, hH, hB, hz, q⟩ := h
  cases rx
  obtain ⟨u, rfl, ru⟩ := rv.one
  cases ru
  obtain ⟨z, its, n, r, hl, e⟩ := I.lstM hH
  obtain ⟨its2, r2, ⟨⟨cls, dd, data, sl⟩, ho, hc, n2, hd⟩, hz2⟩ := I.tuple hB
  simp only at hc hd
  subst hc hd
  have hl2 := r2.length
  have hsz : its.toArray.size + its2.toArray.size ≤ sizeLine := by rw [List.size_toArray, List.size_toArray]; omega
  have hlong : ¬ (!its.toArray.isEmpty && Builtin.List.listTooLong (its.toArray.size + its2.toArray.size)) = true := by
    rw [notLongL hsz, Bool.and_false]
    exact Bool.false_ne_true
  refine call_meets PySem.F.slot_list_extend ⟨_, e, rfl⟩ PySem.F.entry_list_extend (PySem.F.args_list_extend_2 _ _)
    (list_extT l its.toArray n b its2.toArray n2 dd sl hlong (by rw [List.size_toArray]; omega) (by omega)) ⟨e, ho, ?_⟩
  refine ⟨.non, _, I.lset (its' := its ++ its2) hH e (by simp) (r.append r2) ?_, rfl, q⟩
  rw [List.length_append]
  omega
def rExt2 (K : PySem.W.Frag) : V → List V → Hp → VK → Prop := fun x vs H Q => rExtend x vs H Q ∨ rExtT K x vs H Q
theorem mt_ext2 : MtM X "list.extend" (rExt2 X.K) := by
  intro pins s σ H x vs v us Q I rx rv h
  rcases h with h | h
  · exact mt_extend pins s σ H x vs v us Q I rx rv h
  · exact mt_extT pins s σ H x vs v us Q I rx rv h
theorem ss_ext (i : Nat) {n m : Str} {p ap : Pos} {cp : Pos} (h1 : SE S W G x e) (hi : S.N[i]? = some n := by rfl) (hv : Vis S.sc n := by first | exact Or.inl rfl | exact Or.inr (Or.inl rfl) | exact Or.inr (Or.inr rfl)) (hm : m = "extend" := by rfl) (hd : (n == ("__debug__" : Str)) = false := by decide) (hcd : (n == ("__classdict__" : Str)) = false := by decide)
    (hline : (ap.endLine == cp.line) = true := by rfl) (hst : ∀ env, starEach [x] env = [(false, eval x env)] := by intro _; rfl) : SS S W G wn (.Expr (.Call (.Attribute (.Name n p) m ap) [x] [] cp) pos) (.ext i e) := fun X h => by
  subst hm
  have pv : PE X (.Name n p) (tVar i) := pe_var (by rw [h.hN]; exact hi) (by rw [h.hs]; exact hv) hd hcd
  refine PS.weak (ps_expr (pe_bm PySem.F.plainAttrs_list PySem.F.slot_list_extend PySem.F.type_list_extend mt_ext2 pv (pa_cons (h1 X h).v pa_nil (hst _)) rfl (few_one (hst _)) hline (hst _) rfl) rfl) fun D σ H q => ?_
  obtain ⟨F, r, t, o, S0, ee, f⟩ := q
  rw [ex] at ee
  obtain ⟨q, e1, e2⟩ := Option.bind_eq_some_iff.mp ee
  obtain ⟨xs, e3, e4⟩ := Option.bind_eq_some_iff.mp e2
  split at e4
  · rename_i ys hq
    split at e4
    · rename_i hlt
      cases e4
      obtain ⟨pp, vs, s1, z, q1, R1⟩ := S0.own_at e3
      refine ⟨_, s1, .inl ⟨rfl, vs, SqL.of q1⟩, F, r, t, q.1, q.2, S0, e1, fun F' v H' E1 T1 R' => ?_⟩
      have S1 := S0.ext E1 T1
      obtain ⟨pp', vs', s1', z', q1', R1'⟩ := S1.own_at e3
      rw [s1] at s1'
      cases s1'
      rw [hq] at R'
      obtain ⟨b, us, rfl, zb, fb, qb, Rb⟩ := rep_lst R'
      have hlt' : vs'.length + us.length ≤ sizeLine := by rw [R1'.length, Rb.length, ← szL_eq]; exact hlt
      refine .inl ⟨pp, b, vs', us, rfl, rfl, q1', qb, hlt', ?_⟩
      obtain ⟨S2, k2⟩ := S1.write (ownL_at e3) s1 (vs := vs' ++ us) (ys := xs ++ ys) (by rw [List.length_append]; omega) (RepL.append R1' Rb)
      exact f F' σ _ ((E1.kp S0.pl).trans k2) S2
    · cases e4
  · rename_i ys hq
    split at e4
    · rename_i hlt
      cases e4
      obtain ⟨pp, vs, s1, z, q1, R1⟩ := S0.own_at e3
      refine ⟨_, s1, .inl ⟨rfl, vs, SqL.of q1⟩, F, r, t, q.1, q.2, S0, e1, fun F' v H' E1 T1 R' => ?_⟩
      have S1 := S0.ext E1 T1
      obtain ⟨pp', vs', s1', z', q1', R1'⟩ := S1.own_at e3
      rw [s1] at s1'
      cases s1'
      rw [hq] at R'
      obtain ⟨b, us, rfl, zb, qb, Rb⟩ := R'.top.tup
      have hlt' : vs'.length + us.length ≤ sizeLine := by rw [R1'.length, Rb.length, ← szL_eq]; exact hlt
      refine .inr ⟨pp, b, vs', us, rfl, rfl, q1', h.hK ▸ tup_sq qb, hlt', ?_⟩
      obtain ⟨S2, k2⟩ := S1.write (ownL_at e3) s1 (vs := vs' ++ us) (ys := xs ++ ys) (by rw [List.length_append]; omega) (RepL.append R1' Rb)
      exact f F' σ _ ((E1.kp S0.pl).trans k2) S2
    · cases e4
  · cases e4
theorem ss_sti (i : Nat) {n : Str} {p tp : Pos} (h1 : SE S W G x e) (hk : SE S W G y b) (hi : S.N[i]? = some n := by rfl) (hv : Vis S.sc n := by first | exact Or.inl rfl | exact Or.inr (Or.inl rfl) | exact Or.inr (Or.inr rfl)) (hd : (n == ("__debug__" : Str)) = false := by decide) (hcd : (n == ("__classdict__" : Str)) = false := by decide)
    (hs : ∀ l env, swapsWithSole [.Subscript (.Name n p) y tp] x l env = pure false := by intro _ _; rfl) (hw : ∀ env, swappedStores [.Subscript (.Name n p) y tp] x env = pure none := by intro _; rfl)
    (ha : ∀ env v, assign (.Subscript (.Name n p) y tp) env v = (do
      let ov ← holding [v] (eval (.Name n p) env)
      let iv ← holding [v, ov] (eval y env)
      standAt tp
      holding [v, ov, iv] (setItem ov iv v)
      release [v, ov, iv] []) := by intro _ _; rfl) : SS S W G wn (.Assign [.Subscript (.Name n p) y tp] x pos) (.sti i b e) := fun X h => by
  have pv : PE X (.Name n p) (tVar i) := pe_var (by rw [h.hN]; exact hi) (by rw [h.hs]; exact hv) hd hcd
  refine PS.weak (ps_asg (h1 X h).v (pg_sub pv (hk X h).o set_list (ha _)) (hs _ _) (hw _) rfl) fun D σ H q => ?_
  obtain ⟨F, r, t, o, S0, ee, f⟩ := q
  rw [ex] at ee
  obtain ⟨q, e1, e2⟩ := Option.bind_eq_some_iff.mp ee
  obtain ⟨k, e3, e4⟩ := Option.bind_eq_some_iff.mp e2
  obtain ⟨xs, e5, e6⟩ := Option.bind_eq_some_iff.mp e4
  obtain ⟨j, e7, e8⟩ := Option.map_eq_some_iff.mp e6
  cases e8
  refine ⟨F, r, t, q.1, q.2, S0, e1, fun F' v H' E1 T1 R' => ?_⟩
  have S1 := S0.ext E1 T1
  obtain ⟨pp, vs, s1, z, q1, R1⟩ := S1.own_at e5
  refine ⟨_, s1, F', r, q.2, .int k.1, k.2, S1, intO_some e3, fun F2 u H2 E2 T2 O2 => ?_⟩
  have S2 := S1.ext E2 T2
  obtain ⟨pp', vs', s1', z', q1', R1'⟩ := S2.own_at e5
  rw [s1] at s1'
  cases s1'
  refine ⟨pp, vs', k.1, j, rfl, O2.1.int, q1', by rw [R1'.length, ← ixP_eq]; exact e7, ?_⟩
  obtain ⟨S3, k3⟩ := S2.write (ownL_at e5) s1 (vs := vs'.set j v) (ys := xs.set j q.1) (by rw [List.length_set]; exact z') (RepL.set (S1.pl.rep E2 R') j R1')
  exact f F2 σ _ (((E1.trans E2).kp S0.pl).trans k3) S3

/-! freezing -/
theorem Sim.frz1 {F : Addr → Prop} {r : Env} {s : T} {σ : L2.St} {H : Hp} {i : Nat} {d : D} (S0 : Sim W F r s σ H) (hr : r[i]? = some (some (true, d))) : ∃ F', (∀ a, F a → F' a) ∧ Sim W F' (r.set i (some (false, d))) s σ H := by
  obtain ⟨p, e1, tp, nf, z0, hn, n1, n2⟩ := S0.own i _ hr
  refine ⟨fun b => F b ∨ b = p, fun _ h => .inl h, ?_⟩
  have mono : ∀ {d v}, Rep W F H d v → Rep W (fun b => F b ∨ b = p) H d v := fun h => Rep.mono (fun _ h => .inl h) (fun _ _ => rfl) _ _ h
  exact {
    len := by rw [List.length_set]; exact S0.len
    val := fun j d' h => by
      rcases set_some h with ⟨rfl, e, _⟩ | ⟨_, h⟩
      · cases e
        exact ⟨_, e1, tp.freeze⟩
      · obtain ⟨v, e2, q⟩ := S0.val j d' h
        exact ⟨v, e2, mono q⟩
    own := fun j d' h => by
      rcases set_some h with ⟨_, e, _⟩ | ⟨nj, h⟩
      · cases e
      · obtain ⟨q, e2, tq, f1, f2, f3, f4⟩ := S0.own j d' h
        refine ⟨q, e2, Top.mono (fun _ h => .inl h) (fun _ _ => rfl) (fun _ _ _ h => h) tq, ?_, f2, f3, f4⟩
        rintro (z | rfl)
        · exact f1 z
        · exact S0.dis j i d' d q nj h hr e2 e1
    dis := fun j k d1 d2 q hjk h1 h2 h3 h4 => by
      rcases set_some h1 with ⟨_, e, _⟩ | ⟨_, h1⟩
      · cases e
      · rcases set_some h2 with ⟨_, e, _⟩ | ⟨_, h2⟩
        · cases e
        · exact S0.dis j k d1 d2 q hjk h1 h2 h3 h4
    old := S0.old
    f0 := fun q h => .inl (S0.f0 q h)
    f1 := fun q h => by
      rcases h with h | rfl
      · exact S0.f1 q h
      · exact .inr z0
    f2 := fun q h => by
      rcases h with h | rfl
      · exact S0.f2 q h
      · exact hn
    f3 := ⟨fun h => by
      rcases h with h | h
      · exact S0.f3.1 h
      · exact n1 h.symm, fun h => by
      rcases h with h | h
      · exact S0.f3.2 h
      · exact n2 h.symm⟩
    tape := S0.tape }
theorem Sim.frz {s : T} {σ : L2.St} {H : Hp} : ∀ (is : List Nat) {F : Addr → Prop} {r : Env}, Sim W F r s σ H → ∃ F', (∀ a, F a → F' a) ∧ Sim W F' (frz is r) s σ H
  | [], F, r, S0 => ⟨F, fun _ h => h, S0⟩
  | i :: is, F, r, S0 => by
    unfold Ip.frz
    split
    · rename_i d hr
      obtain ⟨F1, k1, S1⟩ := S0.frz1 hr
      obtain ⟨F2, k2, S2⟩ := Sim.frz is S1
      exact ⟨F2, fun a h => k2 a (k1 a h), S2⟩
    · exact Sim.frz is S0
theorem ss_fz (is : List Nat) (h1 : SS S W G wn st u) : SS S W G wn st (.fz is u) := fun X h => PS.weak (h1 X h) fun D σ H q => by
  obtain ⟨F, r, t, o, S0, ee, f⟩ := q
  rw [ex] at ee
  obtain ⟨F1, k1, S1⟩ := S0.frz is
  exact ⟨F1, _, t, o, S1, ee, f.kp ⟨k1, fun _ _ => rfl⟩⟩
end
end Ip

/-! IpN: defs, tables of defs, the tape. -/
namespace Ip
open PySem PySem.Spec PyProof.Rows L2

/-! ### another world of the same written part and tape -/
mutual
theorem Rep.chg {W W' : Wd} {F : Addr → Prop} {H : Hp} (hK : W.K = W'.K) (hb : W.ba = W'.ba) : ∀ (d : D) (v : V), Rep W F H d v → Rep W' F H d v
  | .tup ds, v, h => by
    simp only [Rep] at h ⊢
    obtain ⟨a, vs, e, z, h1, h2⟩ := h
    exact ⟨a, vs, e, z, hK ▸ h1, RepL.chg hK hb ds vs h2⟩
  | .lst ds, v, h => by
    simp only [Rep] at h ⊢
    obtain ⟨a, vs, e, z, h1, h2⟩ := h
    exact ⟨a, vs, e, z, h1, RepL.chg hK hb ds vs h2⟩
  | .box, v, h => by
    simp only [Rep] at h ⊢
    rw [← hb]; exact h
  | .non, _, h | .bl _, _, h | .int _, _, h | .str _, _, h => h
  | .dic _, _, h | .set _, _, h | .fn _, _, h => by simp only [Rep] at h
theorem RepL.chg {W W' : Wd} {F : Addr → Prop} {H : Hp} (hK : W.K = W'.K) (hb : W.ba = W'.ba) : ∀ (ds : List D) (vs : List V), RepL W F H ds vs → RepL W' F H ds vs
  | [], _, h => h
  | d :: ds, vs, h => by
    simp only [RepL] at h ⊢
    obtain ⟨v, r, e, h1, h2⟩ := h
    exact ⟨v, r, e, Rep.chg hK hb d v h1, RepL.chg hK hb ds r h2⟩
end
/-- the world as it stands at a call -/
def Wd.at (W : Wd) (H : Hp) (F : Addr → Prop) : Wd := { W with H0 := H, F0 := F }
section
variable {W : Wd} {F F' : Addr → Prop} {H H' : Hp} {s s' : T}
theorem Rep.to {H0 : Hp} {F0 : Addr → Prop} {d : D} {v : V} (h : Rep W F H d v) : Rep (W.at H0 F0) F H d v := Rep.chg (W := W) (W' := W.at H0 F0) rfl rfl d v h
theorem Rep.back {H0 : Hp} {F0 : Addr → Prop} {d : D} {v : V} (h : Rep (W.at H0 F0) F H d v) : Rep W F H d v := Rep.chg (W := W.at H0 F0) (W' := W) rfl rfl d v h
theorem RepL.to {H0 : Hp} {F0 : Addr → Prop} {ds : List D} {vs : List V} (h : RepL W F H ds vs) : RepL (W.at H0 F0) F H ds vs := RepL.chg (W := W) (W' := W.at H0 F0) rfl rfl ds vs h
theorem Ext.back {H0 : Hp} {F0 : Addr → Prop} (h : Ext (W.at H0 F0) F H F' H') : Ext W F H F' H' := ⟨h.keep, h.mono, h.new, h.live, h.alive⟩
/-- the slots of a def at its call -/
theorem Sim.start {ds : List D} {vs : List V} {N : List Str} (P : Pl W F H s) (R : RepL W F H ds vs) : Sim (W.at H F) F (ds.map (fun x => some (false, x)) ++ List.replicate (N.length - ds.length) none) s (start N vs) H where
  len := by simp [L2.start, R.length]
  val := fun i d h => by
    have hi : i < ds.length := by
      by_cases hi : i < ds.length
      · exact hi
      · rw [List.getElem?_append_right (by rw [List.length_map]; omega), List.getElem?_replicate] at h
        split at h <;> cases h
    rw [List.getElem?_append_left (by rw [List.length_map]; exact hi), List.getElem?_map] at h
    cases e : ds[i]? with
    | none => rw [e] at h; cases h
    | some d' =>
      rw [e] at h
      cases h
      obtain ⟨v, e1, r⟩ := R.get e
      refine ⟨v, ?_, r.to⟩
      unfold L2.start
      rw [List.getElem?_append_left (by rw [List.length_map, R.length]; exact hi), List.getElem?_map, e1]
      rfl
  own := fun i d h => by
    exfalso
    by_cases hi : i < ds.length
    · rw [List.getElem?_append_left (by rw [List.length_map]; exact hi), List.getElem?_map] at h
      cases e : ds[i]? <;> rw [e] at h <;> cases h
    · rw [List.getElem?_append_right (by rw [List.length_map]; omega), List.getElem?_replicate] at h
      split at h <;> cases h
  dis := fun i j d d' a _ h _ _ _ => by
    exfalso
    by_cases hi : i < ds.length
    · rw [List.getElem?_append_left (by rw [List.length_map]; exact hi), List.getElem?_map] at h
      cases e : ds[i]? <;> rw [e] at h <;> cases h
    · rw [List.getElem?_append_right (by rw [List.length_map]; omega), List.getElem?_replicate] at h
      split at h <;> cases h
  old := fun _ _ h _ _ => h
  f0 := fun _ h => h
  f1 := fun _ h => .inl h
  f2 := P.f2
  f3 := P.f3
  tape := P.tape
end

/-! ### tables -/
section
variable {P : Program} {w : World} {K : PySem.W.Frag} {mg : Str → Option Value} {base : Heap} {B : Tb}
def AllOk (P : Program) (w : World) (K : PySem.W.Frag) (mg : Str → Option Value) (base : Heap) (B : Tb) (k : Nat) : Prop := ∀ x i n, B.ft x = some (i, n) → ∃ (f : Addr) (fd : FuncData) (ps : List Str),
  (∀ ba ca, FnOk P w K mg base CX0 (k + 2) f fd ps (spG K ba ca (B.at k) i n)) ∧ mg x = some (.ref f) ∧ PySem.W.keepIn K (.ref f) = true ∧ L2.Binds K fd ps []
/-- what is known of one def of the table -/
def Inf (P : Program) (w : World) (K : PySem.W.Frag) (mg : Str → Option Value) (base : Heap) (B : Tb) (x : Str) (i n : Nat) : Prop := ∃ (f : Addr) (fd : FuncData) (ps : List Str),
  mg x = some (.ref f) ∧ PySem.W.keepIn K (.ref f) = true ∧ L2.Binds K fd ps [] ∧ ∀ k, AllOk P w K mg base B k → ∀ ba ca, FnOk P w K mg base CX0 (k + 3) f fd ps (spG K ba ca (B.at (k + 1)) i n)
theorem all_ok (h : ∀ x i n, B.ft x = some (i, n) → Inf P w K mg base B x i n) : ∀ k, AllOk P w K mg base B k
  | 0 => fun x i n e => by
    obtain ⟨f, fd, ps, h1, h2, h3, _⟩ := h x i n e
    have no : ∀ ba ca vs H Q E, ¬ spG K ba ca (B.at 0) i n vs H Q E := by
      rintro ba ca vs H Q E ⟨_, _, ds, s, d, s', _, _, _, _, _, _, z, _⟩
      have z' : run B.pr B.ds B.wn 0 i ds s = some (d, s') := z
      rw [run] at z'
      cases z'
    exact ⟨f, fd, ps, fun ba ca => ⟨fun vs H Q E z => (no _ _ _ _ _ _ z).elim, fun _ _ _ _ _ _ _ _ _ _ _ _ _ z => (no _ _ _ _ _ _ z).elim⟩, h1, h2, h3⟩
  | k + 1 => fun x i n e => by
    obtain ⟨f, fd, ps, h1, h2, h3, h4⟩ := h x i n e
    exact ⟨f, fd, ps, h4 k (all_ok h k), h1, h2, h3⟩
theorem out_some {o : Option R} {p : D × T} (h : out o = some p) : o = some (.rt p.1 p.2) ∨ ∃ r, o = some (.nx r p.2) ∧ p.1 = .non := by
  unfold out at h
  split at h
  · cases h; exact .inl rfl
  · cases h; exact .inr ⟨_, rfl, rfl⟩
  · cases h
theorem std_of {x qual : Str} {sc : Scope} {N : List Str} {f : Addr} {cdv : Value} {A : Around} {outer : List PySem.Env} {s : Shared} {H : Hp} {E : XK} {k : Nat} {W : Wd} (hN : N.Nodup) (hr : Room (k + 2) (A.deeper (envOfC qual sc s.heap.objs.size f cdv))) (hK : W.K = K)
    (hbt : ∀ x ∈ btN, mg x = none) (all : AllOk P w K mg base B k) : Std ⟨N, sc, fun _ => true, B.ft⟩ W (B.at k) (cxOf CX0 P w K mg base N qual sc f cdv A outer s H E).nox where
  hN := rfl
  hs := rfl
  hf := fun _ _ => rfl
  hK := hK.symm
  calm := rfl
  nd := hN
  un := hr.units
  po := PassesOwn.never
  bt := hbt
  cl := fun x i n e => by
    obtain ⟨f', fd, ps, h1, h2, h3, h4⟩ := all x i n e
    refine ⟨k + 2, f', fd, ps, ?_, hr, h2, h3, h4⟩
    rw [hK]
    exact h1 W.ba W.ca
/-- a def whose body the table holds -/
theorem def_ok {x qual : Str} {st : Stmt} {f : Addr} {fd : FuncData} {N ps : List Str} {us : List Ip.S} {i : Nat} {k : Nat} (Fn : L2.Fun K x qual st f fd) (Sf : FnScope N ps (defScope st))
    (body : ∀ W G, SSs ⟨N, defScope st, fun _ => true, B.ft⟩ W G B.wn (defBody st) us) (hds : B.ds i = some ⟨ps.length, N.length - ps.length, us⟩) (hpr : B.pr i = none) (hbt : ∀ x ∈ btN, mg x = none)
    (all : AllOk P w K mg base B k) (ba ca : Addr) : FnOk P w K mg base CX0 (k + 3) f fd ps (spG K ba ca (B.at (k + 1)) i ps.length) := by
  refine Fn.ok Sf (fun vs H Q E h => ?_) (fun cdv A outer s H vs Q E hr h => ?_)
  · obtain ⟨_, _, _, _, _, _, _, _, _, _, _, e, _⟩ := h
    exact e
  · obtain ⟨W, F, ds, t, d, t', rfl, rfl, rfl, P0, R0, hl, e, kk⟩ := h
    have e' : run B.pr B.ds B.wn (k + 1) i ds t = some (d, t') := e
    rw [run] at e'
    rw [hpr, hds] at e'
    have e2 : (if ds.length = ps.length then out (exs (B.at k) B.wn us (ds.map (fun x => some (false, x)) ++ List.replicate (N.length - ps.length) none) t) else none) = some (d, t') := e'
    have hdl : ds.length = ps.length := by rw [← R0.length]; exact hl
    rw [if_pos hdl] at e2
    refine ⟨_, body (W.at H F) (B.at k) _ (std_of (x := x) Sf.nd hr rfl hbt all), ?_⟩
    have S0 : Sim (W.at H F) F (ds.map (fun x => some (false, x)) ++ List.replicate (N.length - ps.length) none) t (start N vs) H := by
      rw [← hdl]
      exact Sim.start P0 R0
    rcases out_some e2 with e3 | ⟨r, e3, e4⟩
    · exact ⟨F, _, t, _, S0, e3, fun F' v H' E1 T1 R1 => kk F' v H' (Ext.back E1) T1 R1.back⟩
    · dsimp only at e4
      subst e4
      exact ⟨F, _, t, _, S0, e3, fun F' σ' H' _ S1 => kk F' .non H' (Ext.back S1.done) S1.tape rfl⟩
end
end Ip

/-! IpO: the tape's defs: _law_box, _law_load, _law_draw. -/
namespace Ip
open PySem PySem.Spec PyProof.Rows L2

/-! ### numbers read off terms -/
def EvI (t : TE) (σ : L2.St) (H : Hp) (i : Int) : Prop := ∀ Q : VK, Q (.int i) H → t σ H Q
def rInt : List V → Hp → VK → Prop := fun xs H Q => (∃ i, xs = [.int i] ∧ Q (.int i) H) ∨ ∃ k, xs = [.bl k] ∧ Q (.int (if k then 1 else 0)) H
def iB (K : PySem.W.Frag) (j : Int) : TE := tOp (rIx K) (tVar 0) (tC (.int j))
def iI (t : TE) : TE := tCB rInt (tCons t tNil)
def iAdd (a b : TE) : TE := tOp (rI0 fun i j => .int (i + j)) a b
def iSub (a b : TE) : TE := tOp (rI0 fun i j => .int (i - j)) a b
def iMul (a b : TE) : TE := tOp (rI CMul fun i j => .int (i * j)) a b
def iMod (a b : TE) : TE := tOp (rI (fun _ j => 0 < j) fun i j => .int (i % j)) a b
def iDiv (a b : TE) : TE := tOp (rI CDiv fun i j => .int (i / j)) a b
section
variable {σ : L2.St} {H : Hp} {a b : TE} {i j : Int} {K : PySem.W.Frag}
theorem eI_c : EvI (tC (.int i)) σ H i := fun _ q => q
theorem eI_v {n : Nat} (h : σ[n]? = some (some (.int i))) : EvI (tVar n) σ H i := fun _ q => ⟨_, h, q⟩
theorem eI_add (ha : EvI a σ H i) (hb : EvI b σ H j) : EvI (iAdd a b) σ H (i + j) := fun Q q => ha _ (hb _ ⟨i, j, rfl, rfl, q⟩)
theorem eI_sub (ha : EvI a σ H i) (hb : EvI b σ H j) : EvI (iSub a b) σ H (i - j) := fun Q q => ha _ (hb _ ⟨i, j, rfl, rfl, q⟩)
theorem eI_mul (ha : EvI a σ H i) (hb : EvI b σ H j) (h : CMul i j) : EvI (iMul a b) σ H (i * j) := fun Q q => ha _ (hb _ ⟨i, j, rfl, rfl, h, q⟩)
theorem eI_mod (ha : EvI a σ H i) (hb : EvI b σ H j) (h : 0 < j) : EvI (iMod a b) σ H (i % j) := fun Q q => ha _ (hb _ ⟨i, j, rfl, rfl, h, q⟩)
theorem eI_div (ha : EvI a σ H i) (hb : EvI b σ H j) (h : CDiv i j) : EvI (iDiv a b) σ H (i / j) := fun Q q => ha _ (hb _ ⟨i, j, rfl, rfl, h, q⟩)
theorem eI_int (ha : EvI a σ H i) : EvI (iI a) σ H i := fun Q q => ha _ (.inl ⟨i, rfl, q⟩)
theorem eI_neg (ha : EvI a σ H i) : EvI (tUn (rU fun i => .int (-i)) a) σ H (-i) := fun Q q => ha _ ⟨i, rfl, q⟩
theorem eI_box {p : Addr} {vs : List V} {n : Nat} (hs : σ[0]? = some (some (.ref p))) (hp : H p = some (.lst vs)) (hv : vs[n]? = some (.int i)) : EvI (iB K (n : Int)) σ H i := fun Q q => ⟨_, hs, .inl ⟨p, vs, n, _, rfl, rfl, SqL.of hp, atI_nat hv, q⟩⟩
theorem cm_r {i j : Int} (h : -(2 ^ 64) < j ∧ j < 2 ^ 64) : CMul i j := .inr h
theorem cm_l {i j : Int} (h : -(2 ^ 64) < i ∧ i < 2 ^ 64) : CMul i j := .inl h
end

/-! ### the bodies' terms -/
def gBox (j : Int) : TG := gSub (tVar 0) (tC (.int j)) rSetL
def rGt : R2 := rI0 fun i j => .bl (decide (j < i))
def rGe : R2 := rI0 fun i j => .bl (decide (j ≤ i))
def rLt' : R2 := rI0 fun i j => .bl (decide (i < j))
def rLenQ (K : PySem.W.Frag) : List V → Hp → VK → Prop := fun xs H Q => ∃ p ys, xs = [.ref p] ∧ (SqL K H p ys ∨ SqT K H p ys) ∧ Q (.int ys.length) H
def tTail (K : PySem.W.Frag) : TS :=
  tSeq (tAsg (iMod (iI (iAdd (iMul (iB K 2) (tC (.int 48271))) (tC (.int 17)))) (tC (.int 2147483629))) (gName 4))
  (tSeq (tAsg (iMod (iI (iAdd (iMul (tVar 4) (tC (.int 69621))) (tC (.int 5)))) (tC (.int 2147483587))) (gName 5))
  (tSeq (tAsg (iMod (iI (iAdd (iMul (tVar 5) (tC (.int 40692))) (tC (.int 3)))) (tC (.int 2147483563))) (gBox 2))
  (tRet (iAdd (iAdd (iMul (tVar 4) (tC (.int 4611686014132420609))) (iMul (tVar 5) (tC (.int 2147483647)))) (iB K 2)))))
def tLoad (K : PySem.W.Frag) : TS :=
  tSeq (tAsg (iB K 0) (gName 1))
  (tSeq (tIfS (tTest (tOp rGt (tCB (rLenQ K) (tCons (tVar 1) tNil)) (tC (.int 0))))
    (tSeq (tAsg (iI (tBM K "list" rPopAt (tVar 1) (tCons (tC (.int 0)) tNil))) (gName 2))
    (tSeq (tAsg (tIf (tTest (tOp rGe (tVar 2) (tC (.int 0)))) (iMul (tC (.int 2)) (tVar 2)) (iSub (iMul (tUn (rU fun i => .int (-i)) (tC (.int 2))) (tVar 2)) (tC (.int 1)))) (gName 3))
    (tSeq (tIfS (tTest (tOp rGe (tVar 3) (tC (.int 1000000000000000000)))) (tRet (tVar 3)) tNext)
    (tAsg (iMod (iI (iAdd (iAdd (iMul (iB K 2) (tC (.int 69621))) (iMul (tVar 3) (tC (.int 48271)))) (tC (.int 11)))) (tC (.int 2147483647))) (gBox 2))))) tNext)
  (tTail K))
/-- the tape's part of a heap -/
structure Bx (W : Wd) (H0 : Hp) (cells : List Int) (b1 b2 : Int) (H : Hp) : Prop where
  b : H W.ba = some (.lst [.ref W.ca, .int b1, .int b2])
  c : H W.ca = some (.lst (cells.map V.int))
  ne : W.ba ≠ W.ca
  sz : cells.length ≤ 63
  rest : ∀ a, a ≠ W.ba → a ≠ W.ca → H a = H0 a
theorem Bx.set2 {W : Wd} {H0 H : Hp} {cells : List Int} {b1 b2 : Int} (B : Bx W H0 cells b1 b2 H) (y : Int) : Bx W H0 cells b1 y (upd H W.ba (.lst [.ref W.ca, .int b1, .int y])) :=
  ⟨upd_same, by rw [upd_ne B.ne.symm]; exact B.c, B.ne, B.sz, fun a h1 h2 => by rw [upd_ne h1]; exact B.rest a h1 h2⟩
theorem Bx.set1 {W : Wd} {H0 H : Hp} {cells : List Int} {b1 b2 : Int} (B : Bx W H0 cells b1 b2 H) (y : Int) : Bx W H0 cells y b2 (upd H W.ba (.lst [.ref W.ca, .int y, .int b2])) :=
  ⟨upd_same, by rw [upd_ne B.ne.symm]; exact B.c, B.ne, B.sz, fun a h1 h2 => by rw [upd_ne h1]; exact B.rest a h1 h2⟩
theorem Bx.pop {W : Wd} {H0 H : Hp} {c : Int} {r : List Int} {b1 b2 : Int} (B : Bx W H0 (c :: r) b1 b2 H) : Bx W H0 r b1 b2 (upd H W.ca (.lst (r.map V.int))) :=
  ⟨by rw [upd_ne B.ne]; exact B.b, upd_same, B.ne, by have := B.sz; rw [List.length_cons] at this; omega, fun a h1 h2 => by rw [upd_ne h2]; exact B.rest a h1 h2⟩
theorem set_run {W : Wd} {H0 H : Hp} {cells : List Int} {b1 b2 y : Int} {σ : L2.St} {Q : L2.St → Hp → Prop} (B : Bx W H0 cells b1 b2 H) (hs : σ[0]? = some (some (.ref W.ba))) (q : ∀ H', Bx W H0 cells b1 y H' → Q σ H') : gBox 2 (.int y) σ H Q :=
  ⟨_, hs, W.ba, _, 2, 2, rfl, rfl, B.b, rfl, q _ (B.set2 y)⟩
theorem set_run1 {W : Wd} {H0 H : Hp} {cells : List Int} {b1 b2 y : Int} {σ : L2.St} {Q : L2.St → Hp → Prop} (B : Bx W H0 cells b1 b2 H) (hs : σ[0]? = some (some (.ref W.ba))) (q : ∀ H', Bx W H0 cells y b2 H' → Q σ H') : gBox 1 (.int y) σ H Q :=
  ⟨_, hs, W.ba, _, 1, 1, rfl, rfl, B.b, rfl, q _ (B.set1 y)⟩
theorem tail_run {W : Wd} {K : PySem.W.Frag} {H0 H : Hp} {cells : List Int} {b1 b2 : Int} {x1 x2 x3 x4 x5 : Option V} {D : Ends} (B : Bx W H0 cells b1 b2 H) (q : ∀ H', Bx W H0 (loadE cells b2).2.1 b1 (loadE cells b2).2.2 H' → D.rt (.int (loadE cells b2).1) H') :
    tTail K D [some (.ref W.ba), x1, x2, x3, x4, x5] H := by
  refine eI_mod (eI_int (eI_add (eI_mul (eI_box (n := 2) rfl B.b rfl) eI_c (cm_r (by decide))) eI_c)) eI_c (by decide) _ ?_
  refine eI_mod (eI_int (eI_add (eI_mul (eI_v rfl) eI_c (cm_r (by decide))) eI_c)) eI_c (by decide) _ ?_
  refine eI_mod (eI_int (eI_add (eI_mul (eI_v rfl) eI_c (cm_r (by decide))) eI_c)) eI_c (by decide) _ ?_
  refine set_run B rfl fun H' B' => ?_
  exact eI_add (eI_add (eI_mul (eI_v rfl) eI_c (cm_r (by decide))) (eI_mul (eI_v rfl) eI_c (cm_r (by decide)))) (eI_box (n := 2) rfl B'.b rfl) _ (q H' B')
theorem load_run {W : Wd} {K : PySem.W.Frag} {H0 H : Hp} {cells : List Int} {b1 b2 : Int} {D : Ends} (B : Bx W H0 cells b1 b2 H) (q : ∀ H', Bx W H0 (loadD cells b2).2.1 b1 (loadD cells b2).2.2 H' → D.rt (.int (loadD cells b2).1) H') :
    tLoad K D [some (.ref W.ba), none, none, none, none, none] H := by
  refine ⟨_, rfl, .inl ⟨W.ba, _, 0, .ref W.ca, rfl, rfl, SqL.of B.b, rfl, ?_⟩⟩
  refine ⟨_, rfl, W.ca, _, rfl, .inl (SqL.of B.c), _, _, rfl, rfl, _, rfl, ?_⟩
  rw [List.length_map]
  cases cells with
  | nil =>
    exact iteF (tail_run B q)
  | cons c r =>
    rw [decide_eq_true (by rw [List.length_cons]; omega)]
    refine iteT ?_
    refine ⟨_, rfl, .inl ⟨rfl, _, SqL.of B.c⟩, W.ca, _, 0, 0, .int c, rfl, rfl, B.c, by decide, by decide, ?_, rfl, ?_⟩
    · rw [List.length_map, List.length_cons]
      unfold seqIndex?
      simp
    have B1 := B.pop
    refine .inl ⟨c, rfl, ?_⟩
    have hq : ∀ (x : Int), x = sizeC c → ∀ H1, Bx W H0 r b1 b2 H1 → (tSeq (tIfS (tTest (tOp rGe (tVar 3) (tC (.int 1000000000000000000)))) (tRet (tVar 3)) tNext)
        (tAsg (iMod (iI (iAdd (iAdd (iMul (iB K 2) (tC (.int 69621))) (iMul (tVar 3) (tC (.int 48271)))) (tC (.int 11)))) (tC (.int 2147483647))) (gBox 2))) { D with nx := tTail K D } [some (.ref W.ba), some (.ref W.ca), some (.int c), some (.int x), none, none] H1 := by
      rintro x rfl H1 B1
      refine ⟨_, rfl, _, _, rfl, rfl, _, rfl, ?_⟩
      by_cases hc : (1000000000000000000 : Int) ≤ sizeC c
      · rw [decide_eq_true hc]
        refine iteT ⟨_, rfl, ?_⟩
        have e : loadD (c :: r) b2 = (sizeC c, r, b2) := by rw [loadD, if_pos hc]
        rw [e] at q
        exact q _ B1
      · rw [decide_eq_false hc]
        refine iteF ?_
        have e : loadD (c :: r) b2 = loadE r ((b2 * 69621 + sizeC c * 48271 + 11) % 2147483647) := by rw [loadD, if_neg hc]
        rw [e] at q
        refine eI_mod (eI_int (eI_add (eI_add (eI_mul (eI_box (n := 2) rfl B1.b rfl) eI_c (cm_r (by decide))) (eI_mul (eI_v rfl) eI_c (cm_r (by decide)))) eI_c)) eI_c (by decide) _ ?_
        exact set_run B1 rfl fun H' B' => tail_run B' q
    refine ⟨_, rfl, _, _, rfl, rfl, _, rfl, ?_⟩
    by_cases h0 : (0 : Int) ≤ c
    · rw [decide_eq_true h0]
      refine iteT (eI_mul eI_c (eI_v rfl) (cm_l (by decide)) _ ?_)
      exact hq (2 * c) (by unfold sizeC; rw [if_pos h0]) _ B1
    · rw [decide_eq_false h0]
      refine iteF (eI_sub (eI_mul (eI_neg eI_c) (eI_v rfl) (cm_l (by decide))) eI_c _ ?_)
      exact hq (-2 * c - 1) (by unfold sizeC; rw [if_neg h0]) _ B1
def spLoad (ba ca : Addr) : Sp := fun vs H Q _ => ∃ (W : Wd) (cells : List Int) (b1 b2 : Int), W.ba = ba ∧ W.ca = ca ∧ vs = [.ref ba] ∧ Bx W H cells b1 b2 H ∧ ∀ H', Bx W H (loadD cells b2).2.1 b1 (loadD cells b2).2.2 H' → Q (.int (loadD cells b2).1) H'
/-- the call's reading is left open -/
def tDraw (K : PySem.W.Frag) (call : TE) : TS :=
  tSeq (tIfS (tTest (tOp rLt' (iB K 1) (tVar 1))) (tAsg call (gBox 1)) tNext)
  (tSeq (tAsg (iMod (iI (iB K 1)) (tVar 1)) (gName 2))
  (tSeq (tAsg (iDiv (iB K 1) (tVar 1)) (gBox 1))
  (tRet (tVar 2))))
theorem draw_run {W : Wd} {K : PySem.W.Frag} {H : Hp} {cells : List Int} {b1 b2 m : Int} {D : Ends} {d : Int} {s' : T} (B : Bx W H cells b1 b2 H) (e : drD (cells, [b1, b2]) m = some (d, s')) (q : ∀ H' c1 c2, s' = (s'.1, [c1, c2]) → Bx W H s'.1 c1 c2 H' → D.rt (.int d) H') :
    tDraw K (tCall (spLoad W.ba W.ca) [] E0 (tCons (tVar 0) tNil)) D [some (.ref W.ba), some (.int m), none] H := by
  have e' : (if 0 < m ∧ m < 1073741824 then
      (if b1 < m then (let l := loadD cells b2; some (l.1 % m, (l.2.1, [l.1 / m, l.2.2]))) else some (b1 % m, (cells, [b1 / m, b2]))) else none) = some (d, s') := e
  split at e'
  · rename_i hm
    have fin : ∀ c1 c2 cs H1, Bx W H cs c1 c2 H1 → d = c1 % m → s' = (cs, [c1 / m, c2]) → (tSeq (tAsg (iMod (iI (iB K 1)) (tVar 1)) (gName 2))
        (tSeq (tAsg (iDiv (iB K 1) (tVar 1)) (gBox 1)) (tRet (tVar 2)))) D [some (.ref W.ba), some (.int m), none] H1 := by
      intro c1 c2 cs H1 B1 e1 e2
      subst e2
      subst e1
      refine eI_mod (eI_int (eI_box (n := 1) rfl B1.b rfl)) (eI_v rfl) hm.1 _ ?_
      refine eI_div (eI_box (n := 1) rfl B1.b rfl) (eI_v rfl) hm _ ?_
      exact set_run1 B1 rfl fun H' B' => ⟨_, rfl, q H' _ _ rfl B'⟩
    refine eI_box (n := 1) rfl B.b rfl _ ⟨_, rfl, _, _, rfl, rfl, _, rfl, ?_⟩
    by_cases hb : b1 < m
    · rw [if_pos hb] at e'
      rw [decide_eq_true hb]
      refine iteT ⟨_, rfl, W, cells, b1, b2, rfl, rfl, rfl, B, fun H' B' => ?_⟩
      cases e'
      exact set_run1 B' rfl fun H2 B2 => fin _ _ _ _ B2 rfl rfl
    · rw [if_neg hb] at e'
      rw [decide_eq_false hb]
      cases e'
      exact iteF (fin _ _ _ _ B rfl rfl)
  · cases e'
theorem Bx.of {W : Wd} {H : Hp} {s : T} {b1 b2 : Int} (t : Tp W s H) (e : s.2 = [b1, b2]) : Bx W H s.1 b1 b2 H := by
  obtain ⟨t1, t2, t3, t4, _⟩ := t
  rw [e] at t1
  exact ⟨t1, t2, t3, t4, fun _ _ _ => rfl⟩
theorem Bx.tp {W : Wd} {H H0 : Hp} {cells : List Int} {b1 b2 : Int} (B : Bx W H0 cells b1 b2 H) : Tp W (cells, [b1, b2]) H := ⟨B.b, B.c, B.ne, B.sz, by show (2 : Nat) ≤ 3; decide⟩
theorem Bx.ext {W : Wd} {F : Addr → Prop} {H H' : Hp} {cells : List Int} {b1 b2 : Int} {s : T} (P : Pl W F H s) (B : Bx W H cells b1 b2 H') : Ext W F H F H' where
  keep := fun a o e h1 h2 => (B.rest a h1 h2).trans e
  mono := fun _ h => h
  new := fun _ h => .inl h
  live := fun a h => by rw [B.rest a (fun e => P.f3.1 (e ▸ h)) (fun e => P.f3.2 (e ▸ h))]; exact P.f2 a h
  alive := fun a h => by
    by_cases e1 : a = W.ba
    · rw [e1, B.b]; simp
    · by_cases e2 : a = W.ca
      · rw [e2, B.c]; simp
      · rw [B.rest a e1 e2]; exact h
section
variable {P : Program} {w : World} {K : PySem.W.Frag} {mg : Str → Option Value} {base : Heap} {B : Tb}
theorem draw_ok {i : Nat} {f : Addr} {fd : FuncData} (hpr : B.pr i = some pDraw) (ba ca : Addr) (h : FnOk P w K mg base CX0 3 f fd ["box", "many"] fun vs H Q E => ∃ (W : Wd) (s : T) (b1 b2 m : Int) (d : Int) (s' : T), W.ba = ba ∧ W.ca = ca ∧ vs = [.ref ba, .int m] ∧ s.2 = [b1, b2] ∧ Tp W s H ∧ drD (s.1, [b1, b2]) m = some (d, s') ∧ (∀ H' c1 c2, s' = (s'.1, [c1, c2]) → Bx W H s'.1 c1 c2 H' → Q (.int d) H'))
    (k : Nat) : FnOk P w K mg base CX0 (k + 3) f fd ["box", "many"] (spG K ba ca (B.at (k + 1)) i 2) := by
  refine (h.mono (by omega)).imp fun vs H Q E z => ?_
  obtain ⟨W, F, ds, s, d, s', rfl, rfl, rfl, P0, R0, hl, e, kk⟩ := z
  have e' : run B.pr B.ds B.wn (k + 1) i ds s = some (d, s') := e
  rw [run, hpr] at e'
  have e2 : pDraw ds s = some (d, s') := e'
  unfold pDraw at e2
  split at e2
  · rename_i m
    obtain ⟨p, e3, e4⟩ := Option.map_eq_some_iff.mp e2
    cases e4
    obtain ⟨v1, r1, rfl, h1, v2, r2, rfl, h2, rfl⟩ := R0
    have h1' : v1 = .ref W.ba := by simpa only [Rep] using h1
    have h2' : v2 = .int m := h2
    subst h1' h2'
    obtain ⟨p1, p2⟩ := p
    have hr : ∃ b1 b2, s.2 = [b1, b2] := by
      unfold drD at e3
      split at e3
      · rename_i b1 b2 hh
        exact ⟨b1, b2, hh⟩
      · cases e3
    obtain ⟨b1, b2, hr⟩ := hr
    have es : (s.1, [b1, b2]) = s := by rw [← hr]
    refine ⟨W, s, b1, b2, m, p1, p2, rfl, rfl, rfl, hr, P0.tape, by rw [es]; exact e3, fun H' c1 c2 ec B' => ?_⟩
    refine kk F (.int p1) H' (B'.ext P0) ?_ rfl
    rw [ec]
    exact B'.tp
  · cases e2
end
end Ip

/-! IpP: the law's own def: the box made, then the rest by the table. -/
namespace Ip
open PySem PySem.Spec PyProof.Rows L2
/-! ### _law_box -/
def rListQ (K : PySem.W.Frag) : List V → Hp → VK → Prop := fun xs H Q => ∃ p ys, xs = [.ref p] ∧ (SqL K H p ys ∨ SqT K H p ys) ∧ ∀ l, H l = none → Q (.ref l) (upd H l (.lst ys))
def tBox (K : PySem.W.Frag) : TS := tRet (tLst (tCons (tCB (rListQ K) (tCons (tSl (rSlL K) (tVar 0) tNoPart (tPart (tC (.int 63)))) tNil)) (tCons (tC (.int 0)) (tCons (iAdd (tC (.int 4711)) (tCB (rLenQ K) (tCons (tVar 0) tNil))) tNil))))
def spBox (K : PySem.W.Frag) : Sp := fun vs H Q _ => ∃ (a : Addr) (ns : List Int), vs = [.ref a] ∧ SqL K H a (ns.map V.int) ∧ ns.length ≤ 63 ∧
  ∀ ba ca H', ba ≠ ca → H' ba = some (.lst [.ref ca, .int 0, .int (4711 + (ns.length : Int))]) → H' ca = some (.lst (ns.map V.int)) → Q (.ref ba) H'
theorem cut63 {α : Type} {xs : List α} {f : α → V} (h : xs.length ≤ 63) : cutV (xs.map f) none (some 63) = xs.map f := by
  have e : HT.sIx (xs.map f).length (xs.map f).length (some 63) = (xs.map f).length := by
    rw [List.length_map]
    show min 63 xs.length = xs.length
    omega
  have e0 : HT.sIx (xs.map f).length 0 none = 0 := rfl
  unfold cutV
  rw [e, e0, List.drop_zero, Nat.sub_zero, List.take_length]
theorem three_ok {u v x : V} : [u, v, x].length ≤ sizeLine := by rw [← szL_eq]; show 3 ≤ szL; decide
theorem box_run {K : PySem.W.Frag} {H : Hp} {vs : List V} {Q : VK} {E : XK} (h : spBox K vs H Q E) : tBox K { nx := fun _ H' => Q .non H', rt := Q } (start ["script"] vs) H := by
  obtain ⟨a, ns, rfl, hs, hn, q⟩ := h
  refine ⟨_, rfl, 63, rfl, a, _, rfl, hs, fun u hu => ⟨u, _, rfl, .inl (SqL.of upd_same), fun l hl => ?_⟩⟩
  rw [cut63 hn] at hl ⊢
  have s1 : ∀ b o, H b = some o → upd (upd H u (.lst (ns.map V.int))) l (.lst (ns.map V.int)) b = some o := fun b o e => by
    rw [upd_ne (ne_of_none (by rw [upd_ne (ne_of_none e hu)]; exact e) hl), upd_ne (ne_of_none e hu)]
    exact e
  have hs' : SqL K (upd (upd H u (.lst (ns.map V.int))) l (.lst (ns.map V.int))) a (ns.map V.int) := Same.seq s1 hs
  refine eI_add eI_c (fun Q q => ⟨_, rfl, a, _, rfl, .inl hs', q⟩) _ ⟨three_ok, fun p hp => ?_⟩
  have npl : p ≠ l := fun e => by rw [e, upd_same] at hp; cases hp
  refine q p l _ npl ?_ ?_
  · rw [upd_same, List.length_map]
  · rw [upd_ne npl.symm, upd_same]

/-! ### the law -/
def spLaw (K : PySem.W.Frag) : Sp := fun vs H Q _ => ∃ (a : Addr) (ns : List Int), vs = [.ref a] ∧ SqL K H a (ns.map V.int) ∧ ns.length ≤ 63 ∧ ∀ H', Q (.bl true) H'
def gL (K : PySem.W.Frag) (G : Gl) (wn : Nat) (us : List Ip.S) : TS := fun D σ H => ∃ W : Wd, W.K = K ∧ gSs W G wn us D σ H
section
variable {P : Program} {w : World} {K : PySem.W.Frag} {mg : Str → Option Value} {base : Heap} {B : Tb}
/-- the slots when the box is made -/
theorem Sim.law {W : Wd} {s : T} {H : Hp} {σ : L2.St} {n i : Nat} (hl : σ.length = n) (hi : σ[i]? = some (some (.ref W.ba))) (t : Tp W s H) : Sim (W.at H fun _ => False) (fun _ => False) (env0 n i) s σ H where
  len := by unfold env0; rw [List.length_set, List.length_replicate]; exact hl.symm
  val := fun j d h => by
    rcases set_some h with ⟨rfl, e, _⟩ | ⟨_, h⟩
    · cases e
      exact ⟨_, hi, by simp only [Rep]; rfl⟩
    · rw [List.getElem?_replicate] at h
      split at h <;> cases h
  own := fun j d h => by
    exfalso
    rcases set_some h with ⟨_, e, _⟩ | ⟨_, h⟩
    · cases e
    · rw [List.getElem?_replicate] at h
      split at h <;> cases h
  dis := fun j _ d _ _ _ h _ _ _ => by
    exfalso
    rcases set_some h with ⟨_, e, _⟩ | ⟨_, h⟩
    · cases e
    · rw [List.getElem?_replicate] at h
      split at h <;> cases h
  old := fun _ _ h _ _ => h
  f0 := fun _ h => h.elim
  f1 := fun _ h => h.elim
  f2 := fun _ h => h.elim
  f3 := ⟨fun h => h, fun h => h⟩
  tape := t
theorem law_ok {st : Stmt} {f fB : Addr} {fd fdB : FuncData} {N : List Str} {us : List Ip.S} {rest : List Stmt} {ib k : Nat} {p1 p2 p3 p4 p5 : Pos} (Fn : L2.Fun K "law" "law" st f fd) (Sf : FnScope N ["script"] (defScope st))
    (hb : defBody st = .Assign [.Name "box" p1] (.Call (.Name "_law_box" p2) [.Name "script" p3] [] p4) p5 :: rest) (hi : N[ib]? = some ("box" : Str)) (hl : Loc (defScope st) "box") (hv : Vis (defScope st) "script") (hg : (defScope st).names.lookup ("_law_box" : Str) = some .globalImplicit)
    (h0 : N[0]? = some ("script" : Str))
    (body : ∀ W G, SSs ⟨N, defScope st, fun _ => true, B.ft⟩ W G B.wn rest us) (hbt : ∀ x ∈ btN, mg x = none) (all : AllOk P w K mg base B k)
    (FB : FnOk P w K mg base CX0 1 fB fdB ["script"] (spBox K)) (mB : mg "_law_box" = some (.ref fB)) (kB : PySem.W.keepIn K (.ref fB) = true) (bB : L2.Binds K fdB ["script"] [])
    (law : ∀ (cells : List Int) (b : Int), cells.length ≤ 63 → ∃ s', out (exs (B.at k) B.wn us (env0 N.length ib) (cells, [0, b])) = some (.bl true, s')) :
    FnOk P w K mg base CX0 (k + 3) f fd ["script"] (spLaw K) := by
  refine Fn.ok Sf (fun vs H Q E h => ?_) (fun cdv A outer s H vs Q E hr h => ?_)
  · obtain ⟨a, ns, rfl, _⟩ := h
    rfl
  · obtain ⟨a, ns, rfl, hS, hlen, q⟩ := h
    rw [hb]
    have i0 : (start N [V.ref a])[0]? = some (some (.ref a)) := rfl
    have hlen0 : (start N [V.ref a]).length = N.length := by
      have : 0 < N.length := by
        cases N with
        | nil => cases h0
        | cons _ _ => simp
      simp [L2.start]
      omega
    refine ⟨_, pss_cons (ps_set (i := ib) Sf.nd hi hl (pe_call FB (hr.mono (by omega)) hg mB kB bB .nil pass0 (pa_cons (pe_var (i := 0) h0 hv) pa_nil rfl) rfl rfl rfl) rfl (.inl rfl))
      (u := gL K (B.at k) B.wn us) ⟨fun pins s' σ H' D I ⟨W, hW, z⟩ => (body W (B.at k) _ (std_of (x := "law") Sf.nd hr hW hbt all)).run pins s' σ H' D I z⟩, ?_⟩
    refine ⟨_, i0, a, ns, rfl, hS, hlen, fun ba ca H' ne hba hca => ?_⟩
    obtain ⟨s', e⟩ := law ns (4711 + (ns.length : Int)) hlen
    refine ⟨(⟨K, ba, ca, H', fun _ => False⟩ : Wd).at H' fun _ => False, rfl, ?_⟩
    have hib : ib < (start N [V.ref a]).length := by
      rw [hlen0]
      exact (List.getElem?_eq_some_iff.mp hi).1
    have S0 := Sim.law (W := ⟨K, ba, ca, H', fun _ => False⟩) (s := (ns, [0, 4711 + (ns.length : Int)])) (H := H') (σ := (start N [V.ref a]).set ib (some (.ref ba))) (n := N.length) (i := ib) (by rw [List.length_set]; exact hlen0) (set_at hib) ⟨hba, hca, ne, hlen, by show (2 : Nat) ≤ 3; decide⟩
    rcases out_some e with e3 | ⟨r, e3, e4⟩
    · refine ⟨_, _, _, _, S0, e3, fun F' v H2 E1 T1 R1 => ?_⟩
      have R2 : v = .bl true := R1
      subst R2
      exact q H2
    · cases e4
/-! ### what the top has written -/
/-- the def x stands in the written part -/
def Dat (K : PySem.W.Frag) (x : Str) (st : Stmt) : Prop := ∃ (f : Addr) (fd : FuncData), PySem.W.nsIn K mainGlobals x = some (some (.ref f)) ∧ L2.Fun K x x st f fd ∧ PySem.W.keepIn K (.ref f) = true
theorem dat_of {K : PySem.W.Frag} {x : Str} {st : Stmt} {f : Addr} {oc : Value} {od an : Option Addr} {osl : Array (Option Value)} {kV doc pm cdv ct : Value} (a : PySem.W.nsIn K mainGlobals x = some (some (.ref f)))
    (l : K.lookup f = some ⟨oc, od, .func (PySem.W.fnOf x x (defArgs st) (defBody st) (defScope st) .none kV doc pm an cdv ct), osl⟩) (c : PySem.W.codeIn K cdv x = true) (k : PySem.W.keepIn K (.ref f) = true) : Dat K x st := ⟨f, _, a, fun_mk l c k, k⟩
theorem inf_of {x : Str} {st : Stmt} {h : Heap} (X : K.In h) (G : h.Ns mainGlobals mg) (d : Dat K x st) {N ps : List Str} {us : List Ip.S} {i n : Nat} (hn : ps.length = n) (Sf : FnScope N ps (defScope st))
    (body : ∀ W G, SSs ⟨N, defScope st, fun _ => true, B.ft⟩ W G B.wn (defBody st) us) (hds : B.ds i = some ⟨ps.length, N.length - ps.length, us⟩) (hpr : B.pr i = none) (hbt : ∀ x ∈ btN, mg x = none)
    (hb : ∀ (kV doc pm : Value) (an : Option Addr) (cdv ct : Value) (us : List Value), us.length = ps.length → bindArgs (PySem.W.fnOf x x (defArgs st) (defBody st) (defScope st) .none kV doc pm an cdv ct) ⟨us, []⟩ = pure (ps.zip us)) : Inf P w K mg base B x i n := by
  obtain ⟨f, fd, a, F, k⟩ := d
  subst hn
  exact ⟨f, fd, ps, PySem.W.mg_of X G a, k, F.binds hb, fun k all ba ca => def_ok F Sf body hds hpr hbt all ba ca⟩
theorem ft_all {l : List (Str × Nat × Nat)} {p : Str → Nat → Nat → Prop} (h : ∀ q ∈ l, p q.1 q.2.1 q.2.2) : ∀ x i n, l.lookup x = some (i, n) → p x i n := by
  intro x i n e
  induction l with
  | nil => cases e
  | cons q l ih =>
    obtain ⟨y, j, m⟩ := q
    rw [List.lookup_cons] at e
    cases hb : x == y with
    | true =>
      rw [hb] at e
      cases e
      have := h (y, i, n) List.mem_cons_self
      rw [eq_of_beq hb]
      exact this
    | false =>
      rw [hb] at e
      exact ih (fun q hq => h q (List.mem_cons_of_mem _ hq)) e
end
end Ip

/-! PuA: plain lemmas on the evaluator. -/
namespace Ip
/-! ### the tape -/
def TOk (s : T) : Prop := ∃ b1 b2, s.2 = [b1, b2]
theorem drD_ok {s : T} {m : Int} (h : TOk s) (h0 : 0 < m) (h1 : m < 1073741824) : ∃ d s', drD s m = some (d, s') ∧ 0 ≤ d ∧ d < m ∧ TOk s' := by
  obtain ⟨b1, b2, e⟩ := h
  unfold drD
  rw [e]
  dsimp only
  rw [if_pos ⟨h0, h1⟩]
  by_cases hb : b1 < m
  · rw [if_pos hb]
    exact ⟨_, _, rfl, Int.emod_nonneg _ (by omega), Int.emod_lt_of_pos _ h0, _, _, rfl⟩
  · rw [if_neg hb]
    exact ⟨_, _, rfl, Int.emod_nonneg _ (by omega), Int.emod_lt_of_pos _ h0, _, _, rfl⟩

/-! ### operations on numbers -/
theorem cmp_le_int (i j : Int) : cmpD .le (.int i) (.int j) = some (decide (i ≤ j)) := by
  show some (!decide (j < i)) = _
  congr 1
  rw [Bool.eq_iff_iff]
  simp
theorem cmp_ge_int (i j : Int) : cmpD .ge (.int i) (.int j) = some (decide (j ≤ i)) := by
  show some (!decide (i < j)) = _
  congr 1
  rw [Bool.eq_iff_iff]
  simp
theorem cmp_lt_int (i j : Int) : cmpD .lt (.int i) (.int j) = some (decide (i < j)) := rfl
theorem cmp_gt_int (i j : Int) : cmpD .gt (.int i) (.int j) = some (decide (j < i)) := rfl
theorem cmp_eq_int (i j : Int) : cmpD .eq (.int i) (.int j) = some (i == j) := rfl
theorem cmp_ne_int (i j : Int) : cmpD .ne (.int i) (.int j) = some (!(i == j)) := rfl
theorem add_int (i j : Int) : binD .add (.int i) (.int j) = some (.int (i + j)) := rfl
theorem sub_int (i j : Int) : binD .sub (.int i) (.int j) = some (.int (i - j)) := rfl
theorem max_int (i j : Int) : biD .max [.int i, .int j] = some (.int (max i j)) := by
  show some (D.int (if j > i then j else i)) = _
  congr 2
  by_cases h : j > i
  · rw [if_pos h]; omega
  · rw [if_neg h]; omega

/-! ### comprehensions, loops -/
theorem lcF_all {f : D → T → Option (Option D × T)} {g : D → Option D} {s : T} : ∀ {xs : List D}, (∀ x ∈ xs, f x s = some (g x, s)) → lcF f xs s = some (xs.filterMap g, s)
  | [], _ => rfl
  | x :: xs, h => by
    rw [lcF, h x List.mem_cons_self]
    show (lcF f xs s).map _ = _
    rw [lcF_all fun y hy => h y (List.mem_cons_of_mem _ hy)]
    cases e : g x with
    | none => rw [List.filterMap_cons_none e]; rfl
    | some y => rw [List.filterMap_cons_some e]; rfl
/-- every turn gives something, the tape may go on -/
theorem lcF_draw {f : D → T → Option (Option D × T)} {P : D → Prop} : ∀ {xs : List D} {s : T}, TOk s → (∀ x ∈ xs, ∀ s, TOk s → ∃ d s', f x s = some (some d, s') ∧ P d ∧ TOk s') → ∃ ds s', lcF f xs s = some (ds, s') ∧ ds.length = xs.length ∧ (∀ d ∈ ds, P d) ∧ TOk s'
  | [], s, hs, _ => ⟨[], s, rfl, rfl, by simp, hs⟩
  | x :: xs, s, hs, h => by
    obtain ⟨d, s1, e1, p1, t1⟩ := h x List.mem_cons_self s hs
    obtain ⟨ds, s2, e2, l2, p2, t2⟩ := lcF_draw t1 fun y hy => h y (List.mem_cons_of_mem _ hy)
    refine ⟨d :: ds, s2, ?_, by simp [l2], ?_, t2⟩
    · rw [lcF, e1]
      show (lcF f xs s1).map _ = _
      rw [e2]
      rfl
    · intro y hy
      rcases List.mem_cons.mp hy with rfl | hy
      · exact p1
      · exact p2 y hy
/-- a loop that ends or goes on: I by the rest -/
theorem forF_inv {f : D → Env → T → Option R} {Q : R → Prop} {I : List D → Env → T → Prop} (hs : ∀ x xs r s, I (x :: xs) r s → ∃ o, f x r s = some o ∧ match o with
    | .nx r' s' => I xs r' s'
    | .ct r' s' => I xs r' s'
    | .bk r' s' => Q (.nx r' s')
    | .rt d s' => Q (.rt d s')) (hd : ∀ r s, I [] r s → Q (.nx r s)) : ∀ (xs : List D) (r : Env) (s : T), I xs r s → ∃ o, forF f xs r s = some o ∧ Q o
  | [], r, s, h => ⟨_, rfl, hd r s h⟩
  | x :: xs, r, s, h => by
    obtain ⟨o, e, q⟩ := hs x xs r s h
    rw [forF, e]
    cases o with
    | nx r' s' => exact forF_inv hs hd xs r' s' q
    | ct r' s' => exact forF_inv hs hd xs r' s' q
    | bk r' s' => exact ⟨_, rfl, q⟩
    | rt d s' => exact ⟨_, rfl, q⟩

/-! ### the evaluator's equations, one by one -/
section
variable {G : Gl} {wn : Nat} {r : Env} {s : T} {a b c e : E} {es cs : List E}
theorem ev_loc {i : Nat} : ev G (.loc i) r = ⟨fun s => (evV r i).map fun d => (d, s), fun s => (evL r i).map fun d => (d, s), fun s => (evL r i).bind fun d => (truD d).map fun b => (b, s)⟩ := by rw [ev]
theorem ev_con {d : D} : ev G (.con d) r = mk fun s => some (d, s) := by rw [ev]
theorem ev_bin {o : Op} : ev G (.bin o a b) r = mk fun s => ((ev G a r).o s).bind fun p => ((ev G b r).o p.2).bind fun q => (binD o p.1 q.1).map fun d => (d, q.2) := by rw [ev]
theorem ev_neg : ev G (.neg a) r = mk fun s => (intO ((ev G a r).o s)).map fun p => (.int (-p.1), p.2) := by rw [ev]
theorem ev_not : ev G (.not_ a) r = ⟨fun s => ((ev G a r).o s).bind fun p => (truD p.1).map fun b => (.bl (!b), p.2), fun s => ((ev G a r).o s).bind fun p => (truD p.1).map fun b => (.bl (!b), p.2), fun s => ((ev G a r).t s).map fun p => (!p.1, p.2)⟩ := by rw [ev]
theorem ev_and : ev G (.and_ a b) r = ⟨fun s => ((ev G a r).v s).bind fun p => (truD p.1).bind fun k => if k then (ev G b r).v p.2 else some p, fun s => ((ev G a r).v s).bind fun p => (truD p.1).bind fun k => if k then (ev G b r).v p.2 else some p,
      fun s => ((ev G a r).t s).bind fun p => if p.1 then (ev G b r).t p.2 else some (false, p.2)⟩ := by rw [ev]
theorem ev_or : ev G (.or_ a b) r = ⟨fun s => ((ev G a r).v s).bind fun p => (truD p.1).bind fun k => if k then some p else (ev G b r).v p.2, fun s => ((ev G a r).v s).bind fun p => (truD p.1).bind fun k => if k then some p else (ev G b r).v p.2,
      fun s => ((ev G a r).t s).bind fun p => if p.1 then some (true, p.2) else (ev G b r).t p.2⟩ := by rw [ev]
theorem ev_ite : ev G (.ite c a b) r = ⟨fun s => ((ev G c r).t s).bind fun p => if p.1 then (ev G a r).v p.2 else (ev G b r).v p.2, fun s => ((ev G c r).t s).bind fun p => if p.1 then (ev G a r).v p.2 else (ev G b r).v p.2,
      fun s => ((ev G c r).t s).bind fun p => if p.1 then (ev G a r).t p.2 else (ev G b r).t p.2⟩ := by rw [ev]
theorem ev_cmp {o : Cp} : ev G (.cmp o a b) r = mk fun s => ((ev G a r).o s).bind fun p => ((ev G b r).o p.2).bind fun q => (cmpD o p.1 q.1).map fun k => (.bl k, q.2) := by rw [ev]
theorem ev_chain {o o' : Cp} : ev G (.chain o o' a b c) r = mk fun s => ((ev G a r).o s).bind fun p => ((ev G b r).o p.2).bind fun q => (cmpD o p.1 q.1).bind fun k =>
      if k then ((ev G c r).o q.2).bind fun u => (cmpD o' q.1 u.1).map fun k' => (.bl k', u.2) else some (.bl false, q.2) := by rw [ev]
theorem ev_tup : ev G (.tup es) r = mk fun s => (evs G es r s).map fun p => (.tup p.1, p.2) := by rw [ev]
theorem ev_lst : ev G (.lst es) r = mk fun s => (evs G es r s).map fun p => (.lst p.1, p.2) := by rw [ev]
theorem ev_call {f : Nat} : ev G (.call f es) r = mk fun s => (evs G es r s).bind fun p => G.cl f p.1 p.2 := by rw [ev]
theorem ev_bi {b : Bi} : ev G (.bi b es) r = mk fun s => (evos G es r s).bind fun p => (biD b p.1).map fun d => (d, p.2) := by rw [ev]
theorem ev_isi {t : Ty} : ev G (.isi t a) r = mk fun s => ((ev G a r).o s).bind fun p => (isiD t p.1).map fun b => (.bl b, p.2) := by rw [ev]
theorem ev_sub : ev G (.sub a b) r = mk fun s => ((ev G a r).o s).bind fun p => ((ev G b r).o p.2).bind fun q => (subD p.1 q.1).map fun d => (d, q.2) := by rw [ev]
theorem ev_sli {lo hi : Option E} : ev G (.sli a lo hi) r = mk fun s => ((ev G a r).o s).bind fun p => (evo? G lo r p.2).bind fun l => (evo? G hi r l.2).bind fun h => (cutD p.1 l.1 h.1).map fun d => (d, h.2) := by rw [ev]
theorem ev_rev : ev G (.rev a) r = mk fun s => ((ev G a r).o s).bind fun p => if isStr p.1 then none else (revD p.1).map fun d => (d, p.2) := by rw [ev]
theorem evs_nil : evs G [] r s = some ([], s) := by rw [evs]
theorem evs_cons : evs G (e :: es) r s = ((ev G e r).v s).bind fun p => (evs G es r p.2).map fun q => (p.1 :: q.1, q.2) := by rw [evs]
theorem evos_nil : evos G [] r s = some ([], s) := by rw [evos]
theorem evos_cons : evos G (e :: es) r s = ((ev G e r).o s).bind fun p => (evos G es r p.2).map fun q => (p.1 :: q.1, q.2) := by rw [evos]
theorem evts_nil : evts G [] r s = some (true, s) := by rw [evts]
theorem evts_cons : evts G (e :: es) r s = ((ev G e r).t s).bind fun p => if p.1 then evts G es r p.2 else some (false, p.2) := by rw [evts]
theorem evo_none : evo? G none r s = some (none, s) := by rw [evo?]
theorem evo_some : evo? G (some e) r s = (intO ((ev G e r).o s)).map fun p => (some p.1, p.2) := by rw [evo?]
/-- what a comprehension does at a turn -/
def lcT (G : Gl) (own : List Nat) (t : Tg) (cs : List E) (e : E) (r : Env) : D → T → Option (Option D × T) := fun x s => (bindT t x (wipeE r own)).bind fun r' => (evts G cs r' s).bind fun q => if q.1 then ((ev G e r').v q.2).map fun u => (some u.1, u.2) else some (none, q.2)
theorem ev_lc {own : List Nat} {t : Tg} {k : Ik} : ev G (.lc own t k es cs e) r = mk fun s => (evos G es r s).bind fun p => (itD k p.1).bind fun xs => (lcF (lcT G own t cs e r) xs p.2).map fun q => (.lst q.1, q.2) := by rw [ev] <;> rfl
/-- a comprehension that draws nothing -/
theorem lc_o {own : List Nat} {t : Tg} {k : Ik} (xs : List D) (g : D → D) {ds : List D} (h1 : evos G es r s = some (ds, s)) (h2 : itD k ds = some xs) (h3 : ∀ x ∈ xs, ∃ r', bindT t x (wipeE r own) = some r' ∧ (ev G e r').v s = some (g x, s)) :
    (ev G (.lc own t k es [] e) r).o s = some (.lst (xs.map g), s) := by
  rw [ev_lc]
  show (evos G es r s).bind _ = _
  rw [h1]
  show (itD k ds).bind _ = _
  rw [h2]
  show (lcF _ xs s).map _ = _
  rw [lcF_all (g := fun x => some (g x))]
  · rw [show (fun x => some (g x)) = some ∘ g from rfl, List.filterMap_eq_map]
    rfl
  · intro x hx
    obtain ⟨r', e1, e2⟩ := h3 x hx
    unfold lcT
    rw [e1, Option.bind_some, evts_nil, Option.bind_some, if_pos rfl, e2]
    rfl
theorem lc_v {own : List Nat} {t : Tg} {k : Ik} (xs : List D) (g : D → D) {ds : List D} (h1 : evos G es r s = some (ds, s)) (h2 : itD k ds = some xs) (h3 : ∀ x ∈ xs, ∃ r', bindT t x (wipeE r own) = some r' ∧ (ev G e r').v s = some (g x, s)) :
    (ev G (.lc own t k es [] e) r).v s = some (.lst (xs.map g), s) := by
  rw [← lc_o xs g h1 h2 h3, ev_lc]
  rfl
/-- with a test -/
theorem lcc_o {own : List Nat} {t : Tg} {k : Ik} (xs : List D) (p : D → Bool) (g : D → D) {ds : List D} (h1 : evos G es r s = some (ds, s)) (h2 : itD k ds = some xs) (h3 : ∀ x ∈ xs, ∃ r', bindT t x (wipeE r own) = some r' ∧ (ev G c r').t s = some (p x, s) ∧ (p x = true → (ev G e r').v s = some (g x, s))) :
    (ev G (.lc own t k es [c] e) r).o s = some (.lst ((xs.filter p).map g), s) := by
  rw [ev_lc]
  show (evos G es r s).bind _ = _
  rw [h1]
  show (itD k ds).bind _ = _
  rw [h2]
  show (lcF _ xs s).map _ = _
  rw [lcF_all (g := fun x => if p x then some (g x) else none)]
  · have : xs.filterMap (fun x => if p x = true then some (g x) else none) = (xs.filter p).map g := by
      clear h1 h2 h3
      induction xs with
      | nil => rfl
      | cons x xs ih =>
        cases hp : p x with
        | true => simp [hp, ih]
        | false => simp [hp, ih]
    rw [this]
    rfl
  · intro x hx
    obtain ⟨r', e1, e2, e3⟩ := h3 x hx
    unfold lcT
    rw [e1, Option.bind_some, evts_cons, e2, Option.bind_some]
    cases hp : p x with
    | true =>
      rw [if_pos rfl, evts_nil, Option.bind_some, if_pos rfl, e3 hp]
      rfl
    | false => rfl
theorem lcc_v {own : List Nat} {t : Tg} {k : Ik} (xs : List D) (p : D → Bool) (g : D → D) {ds : List D} (h1 : evos G es r s = some (ds, s)) (h2 : itD k ds = some xs) (h3 : ∀ x ∈ xs, ∃ r', bindT t x (wipeE r own) = some r' ∧ (ev G c r').t s = some (p x, s) ∧ (p x = true → (ev G e r').v s = some (g x, s))) :
    (ev G (.lc own t k es [c] e) r).v s = some (.lst ((xs.filter p).map g), s) := by
  rw [← lcc_o xs p g h1 h2 h3, ev_lc]
  rfl
theorem bls_map {α : Type} (p : α → Bool) : ∀ xs : List α, blsOf (xs.map fun x => .bl (p x)) = some (xs.map p)
  | [] => rfl
  | x :: xs => by
    show (blsOf (xs.map _)).map _ = _
    rw [bls_map p xs]
    rfl
theorem bi_all {α : Type} (p : α → Bool) (xs : List α) : biD .all [.lst (xs.map fun x => .bl (p x))] = some (.bl (xs.all p)) := by
  show (blsOf _).map _ = _
  rw [bls_map]
  simp
theorem bi_any {α : Type} (p : α → Bool) (xs : List α) : biD .any [.lst (xs.map fun x => .bl (p x))] = some (.bl (xs.any p)) := by
  show (blsOf _).map _ = _
  rw [bls_map]
  simp

/-! ### statements -/
theorem exs_nil : exs G wn [] r s = some (.nx r s) := by rw [exs]
theorem exs_cons {x : S} {xs : List S} : exs G wn (x :: xs) r s = seqR (ex G wn x r s) fun r s => exs G wn xs r s := by rw [exs]
theorem ex_fz {is : List Nat} {x : S} : ex G wn (.fz is x) r s = ex G wn x (frz is r) s := by rw [ex]
theorem ex_set {i : Nat} {w : Bool} : ex G wn (.set i w e) r s = ((ev G e r).v s).map fun p => .nx (setO r i w p.1) p.2 := by rw [ex]
theorem ex_par {is : List (Nat × Bool)} : ex G wn (.par is es) r s = (evs G es r s).bind fun p => (setOs is p.1 r).map fun r' => .nx r' p.2 := by rw [ex]
theorem ex_tgt {ts : List Tg} : ex G wn (.tgt ts e) r s = ((ev G e r).v s).bind fun p => (bindAll ts p.1 r).map fun r' => .nx r' p.2 := by rw [ex]
theorem ex_aug {i : Nat} {o : Op} : ex G wn (.aug i o e) r s = (evV r i).bind fun x => ((ev G e r).o s).bind fun p => (binD o x p.1).bind fun d => match d with
    | .int k => some (.nx (r.set i (some (false, .int k))) p.2)
    | _ => none := by rw [ex] <;> rfl
theorem ex_app {i : Nat} : ex G wn (.app i e) r s = ((ev G e r).v s).bind fun p => (ownL r i).bind fun xs => if xs.length < szL then some (.nx (r.set i (some (true, .lst (xs ++ [p.1])))) p.2) else none := by rw [ex]
theorem ex_ext {i : Nat} : ex G wn (.ext i e) r s = ((ev G e r).v s).bind fun p => (ownL r i).bind fun xs => match p.1 with
    | .lst ys | .tup ys => if xs.length + ys.length ≤ szL then some (.nx (r.set i (some (true, .lst (xs ++ ys)))) p.2) else none
    | _ => none := by rw [ex] <;> rfl
theorem ex_exp : ex G wn (.exp e) r s = ((ev G e r).v s).map fun p => .nx r p.2 := by rw [ex]
theorem ex_ret : ex G wn (.ret e) r s = ((ev G e r).v s).map fun p => .rt p.1 p.2 := by rw [ex]
theorem ex_ife {xs ys : List S} : ex G wn (.ife c xs ys) r s = ((ev G c r).t s).bind fun p => if p.1 then exs G wn xs r p.2 else exs G wn ys r p.2 := by rw [ex]
theorem ex_brk : ex G wn .brk r s = some (.bk r s) := by rw [ex]
theorem ex_cnt : ex G wn .cnt r s = some (.ct r s) := by rw [ex]
theorem ex_pas : ex G wn .pas r s = some (.nx r s) := by rw [ex]
/-- a loop's turn -/
def foT (G : Gl) (wn : Nat) (t : Tg) (b : List S) : D → Env → T → Option R := fun x r s => (bindT t x r).bind fun r' => exs G wn b r' s
theorem ex_for {t : Tg} {k : Ik} {b : List S} : ex G wn (.for_ t k es b) r s = (evs G es r s).bind fun p => (itD k p.1).bind fun xs => forF (foT G wn t b) xs r p.2 := by rw [ex] <;> rfl
theorem out_ret {xs : List S} : out (exs G wn (.ret e :: xs) r s) = (ev G e r).v s := by
  rw [exs_cons, ex_ret]
  cases h : (ev G e r).v s with
  | none => rfl
  | some p => rfl
theorem out_ife {xs : List S} : out (exs G wn (.ife c [.ret a] [] :: xs) r s) = ((ev G c r).t s).bind fun p => if p.1 then (ev G a r).v p.2 else out (exs G wn xs r p.2) := by
  rw [exs_cons, ex_ife]
  cases h : (ev G c r).t s with
  | none => rfl
  | some p =>
    obtain ⟨b, s'⟩ := p
    cases b with
    | true =>
      show out (seqR (exs G wn [.ret a] r s') _) = (ev G a r).v s'
      rw [← out_ret (wn := wn) (xs := [])]
      cases h : exs G wn [.ret a] r s' with
      | none => rfl
      | some o =>
        rw [exs_cons, ex_ret] at h
        cases h2 : (ev G a r).v s' with
        | none => rw [h2] at h; cases h
        | some p => rw [h2] at h; cases h; rfl
    | false =>
      show out (seqR (exs G wn [] r s') _) = _
      rw [exs_nil]
      rfl
theorem out_set {i : Nat} {w : Bool} {xs : List S} : out (exs G wn (.set i w e :: xs) r s) = ((ev G e r).v s).bind fun p => out (exs G wn xs (setO r i w p.1) p.2) := by
  rw [exs_cons, ex_set]
  cases h : (ev G e r).v s with
  | none => rfl
  | some p => rfl
end
end Ip

/-! PuB: expressions that leave the tape alone: their values, as a calculus. -/
namespace Ip
/-- as an operand and as a test -/
structure Po (G : Gl) (e : E) (r : Env) (d : D) : Prop where
  o : ∀ s, (ev G e r).o s = some (d, s)
  t : ∀ s b, truD d = some b → (ev G e r).t s = some (b, s)
/-- as a value, too -/
structure Pv (G : Gl) (e : E) (r : Env) (d : D) : Prop extends Po G e r d where
  v : ∀ s, (ev G e r).v s = some (d, s)
section
variable {G : Gl} {wn : Nat} {r : Env} {a b c e : E} {es cs : List E} {d x y z : D} {p q : Bool}
theorem Pv.of_mk {f : T → Option (D × T)} (h : ev G e r = Ip.mk f) (hf : ∀ s, f s = some (d, s)) : Pv G e r d := by
  refine ⟨⟨fun s => ?_, fun s b hb => ?_⟩, fun s => ?_⟩
  · rw [h]; exact hf s
  · rw [h]
    show (f s).bind _ = _
    rw [hf s]
    show (truD d).map _ = _
    rw [hb]
    rfl
  · rw [h]; exact hf s
def Pos (G : Gl) : List E → Env → List D → Prop
  | [], _, ds => ds = []
  | e :: es, r, ds => ∃ d ds', ds = d :: ds' ∧ Po G e r d ∧ Pos G es r ds'
def Pvs (G : Gl) : List E → Env → List D → Prop
  | [], _, ds => ds = []
  | e :: es, r, ds => ∃ d ds', ds = d :: ds' ∧ Pv G e r d ∧ Pvs G es r ds'
theorem Pos.ev : ∀ {es : List E} {ds : List D}, Pos G es r ds → ∀ s, evos G es r s = some (ds, s)
  | [], _, h, s => by rw [evos_nil, show _ = _ from h]
  | e :: es, _, ⟨d, ds', rfl, h1, h2⟩, s => by
    rw [evos_cons, h1.o, Option.bind_some, Pos.ev h2 s]
    rfl
theorem Pvs.ev : ∀ {es : List E} {ds : List D}, Pvs G es r ds → ∀ s, evs G es r s = some (ds, s)
  | [], _, h, s => by rw [evs_nil, show _ = _ from h]
  | e :: es, _, ⟨d, ds', rfl, h1, h2⟩, s => by
    rw [evs_cons, h1.v, Option.bind_some, Pvs.ev h2 s]
    rfl
theorem pos_nil : Pos G [] r [] := rfl
theorem pos_cons {ds : List D} (h1 : Po G e r d) (h2 : Pos G es r ds) : Pos G (e :: es) r (d :: ds) := ⟨d, ds, rfl, h1, h2⟩
theorem pvs_nil : Pvs G [] r [] := rfl
theorem pvs_cons {ds : List D} (h1 : Pv G e r d) (h2 : Pvs G es r ds) : Pvs G (e :: es) r (d :: ds) := ⟨d, ds, rfl, h1, h2⟩
theorem po_loc {i : Nat} {w : Bool} (h : r[i]? = some (some (w, d))) : Po G (.loc i) r d := by
  have e : evL r i = some d := by unfold evL; rw [h]
  refine ⟨fun s => ?_, fun s b hb => ?_⟩
  · rw [ev_loc]
    show (evL r i).map _ = _
    rw [e]
    rfl
  · rw [ev_loc]
    show (evL r i).bind _ = _
    rw [e]
    show (truD d).map _ = _
    rw [hb]
    rfl
theorem pv_loc {i : Nat} (h : r[i]? = some (some (false, d))) : Pv G (.loc i) r d := by
  have e : evV r i = some d := by unfold evV; rw [h]
  refine ⟨po_loc h, fun s => ?_⟩
  rw [ev_loc]
  show (evV r i).map _ = _
  rw [e]
  rfl
theorem pv_con : Pv G (.con d) r d := .of_mk ev_con fun _ => rfl
theorem pv_bin {o : Op} (ha : Po G a r x) (hb : Po G b r y) (h : binD o x y = some d) : Pv G (.bin o a b) r d := .of_mk ev_bin fun s => by rw [ha.o, Option.bind_some, hb.o, Option.bind_some, h]; rfl
theorem pv_neg {i : Int} (ha : Po G a r (.int i)) : Pv G (.neg a) r (.int (-i)) := .of_mk ev_neg fun s => by rw [ha.o]; rfl
theorem pv_not (ha : Po G a r x) (h : truD x = some p) : Pv G (.not_ a) r (.bl (!p)) := by
  refine ⟨⟨fun s => ?_, fun s b hb => ?_⟩, fun s => ?_⟩
  · rw [ev_not]
    show ((ev G a r).o s).bind _ = _
    rw [ha.o, Option.bind_some, h]
    rfl
  · cases hb
    rw [ev_not]
    show ((ev G a r).t s).map _ = _
    rw [ha.t s p h]
    rfl
  · rw [ev_not]
    show ((ev G a r).o s).bind _ = _
    rw [ha.o, Option.bind_some, h]
    rfl
theorem pv_and (ha : Pv G a r (.bl p)) (hb : p = true → Pv G b r (.bl q)) : Pv G (.and_ a b) r (.bl (p && q)) := by
  have v : ∀ s, (ev G (.and_ a b) r).v s = some (.bl (p && q), s) := fun s => by
    rw [ev_and]
    show ((ev G a r).v s).bind _ = _
    rw [ha.v, Option.bind_some]
    cases p with
    | true => show (ev G b r).v s = _; rw [(hb rfl).v]; rfl
    | false => rfl
  refine ⟨⟨fun s => ?_, fun s b' hb' => ?_⟩, v⟩
  · have := v s
    rw [ev_and] at this ⊢
    exact this
  · cases hb'
    rw [ev_and]
    show ((ev G a r).t s).bind _ = _
    rw [ha.t s p rfl, Option.bind_some]
    cases p with
    | true => show (ev G b r).t s = _; rw [(hb rfl).t s q rfl]; rfl
    | false => rfl
theorem pv_or (ha : Pv G a r (.bl p)) (hb : p = false → Pv G b r (.bl q)) : Pv G (.or_ a b) r (.bl (p || q)) := by
  have v : ∀ s, (ev G (.or_ a b) r).v s = some (.bl (p || q), s) := fun s => by
    rw [ev_or]
    show ((ev G a r).v s).bind _ = _
    rw [ha.v, Option.bind_some]
    cases p with
    | false => show (ev G b r).v s = _; rw [(hb rfl).v]; rfl
    | true => rfl
  refine ⟨⟨fun s => ?_, fun s b' hb' => ?_⟩, v⟩
  · have := v s
    rw [ev_or] at this ⊢
    exact this
  · cases hb'
    rw [ev_or]
    show ((ev G a r).t s).bind _ = _
    rw [ha.t s p rfl, Option.bind_some]
    cases p with
    | false => show (ev G b r).t s = _; rw [(hb rfl).t s q rfl]; rfl
    | true => rfl
theorem pv_and0 (ha : Pv G a r (.bl false)) : Pv G (.and_ a b) r (.bl false) := pv_and (q := false) ha (fun h => nomatch h)
theorem pv_or1 (ha : Pv G a r (.bl true)) : Pv G (.or_ a b) r (.bl true) := pv_or (q := false) ha (fun h => nomatch h)
theorem pv_ite (hc : Po G c r z) (hz : truD z = some p) (ha : p = true → Pv G a r d) (hb : p = false → Pv G b r d) : Pv G (.ite c a b) r d := by
  have v : ∀ s, (ev G (.ite c a b) r).v s = some (d, s) := fun s => by
    rw [ev_ite]
    show ((ev G c r).t s).bind _ = _
    rw [hc.t s p hz, Option.bind_some]
    cases p with
    | true => exact (ha rfl).v s
    | false => exact (hb rfl).v s
  refine ⟨⟨fun s => ?_, fun s b' hb' => ?_⟩, v⟩
  · have := v s
    rw [ev_ite] at this ⊢
    exact this
  · rw [ev_ite]
    show ((ev G c r).t s).bind _ = _
    rw [hc.t s p hz, Option.bind_some]
    cases p with
    | true => exact (ha rfl).t s b' hb'
    | false => exact (hb rfl).t s b' hb'
theorem pv_cmp {o : Cp} (ha : Po G a r x) (hb : Po G b r y) (h : cmpD o x y = some p) : Pv G (.cmp o a b) r (.bl p) := .of_mk ev_cmp fun s => by rw [ha.o, Option.bind_some, hb.o, Option.bind_some, h]; rfl
theorem pv_chain {o o' : Cp} (ha : Po G a r x) (hb : Po G b r y) (h : cmpD o x y = some p) (hc : p = true → Po G c r z) (h' : p = true → cmpD o' y z = some q) : Pv G (.chain o o' a b c) r (.bl (p && q)) := .of_mk ev_chain fun s => by
  rw [ha.o, Option.bind_some, hb.o, Option.bind_some, h, Option.bind_some]
  cases p with
  | true => rw [if_pos rfl, (hc rfl).o, Option.bind_some, h' rfl]; rfl
  | false => rfl
theorem pv_tup {ds : List D} (h : Pvs G es r ds) : Pv G (.tup es) r (.tup ds) := .of_mk ev_tup fun s => by rw [h.ev]; rfl
theorem pv_lst {ds : List D} (h : Pvs G es r ds) : Pv G (.lst es) r (.lst ds) := .of_mk ev_lst fun s => by rw [h.ev]; rfl
theorem pv_call {f : Nat} {ds : List D} (h : Pvs G es r ds) (hc : ∀ s, G.cl f ds s = some (d, s)) : Pv G (.call f es) r d := .of_mk ev_call fun s => by rw [h.ev, Option.bind_some]; exact hc s
theorem pv_bi {o : Bi} {ds : List D} (h : Pos G es r ds) (hc : biD o ds = some d) : Pv G (.bi o es) r d := .of_mk ev_bi fun s => by rw [h.ev, Option.bind_some, hc]; rfl
theorem pv_isi {t : Ty} (ha : Po G a r x) (h : pl 60 x = true) : Pv G (.isi t a) r (.bl (isiB t x)) := .of_mk ev_isi fun s => by
  rw [ha.o, Option.bind_some]
  show (isiD t x).map _ = _
  unfold isiD
  rw [if_pos h]
  rfl
theorem pv_sub (ha : Po G a r x) (hb : Po G b r y) (h : subD x y = some d) : Pv G (.sub a b) r d := .of_mk ev_sub fun s => by rw [ha.o, Option.bind_some, hb.o, Option.bind_some, h]; rfl
/-- a slice's end -/
def Pe (G : Gl) (r : Env) : Option E → Option Int → Prop
  | none, o => o = none
  | some e, o => ∃ i, o = some i ∧ Po G e r (.int i)
theorem pe_none : Pe G r none none := rfl
theorem pe_some {i : Int} (h : Po G e r (.int i)) : Pe G r (some e) (some i) := ⟨i, rfl, h⟩
theorem Pe.ev : ∀ {e : Option E} {o : Option Int}, Pe G r e o → ∀ s, evo? G e r s = some (o, s)
  | none, _, h, s => by rw [evo_none, show _ = _ from h]
  | some e, _, ⟨i, rfl, h⟩, s => by rw [evo_some, h.o]; rfl
theorem pv_sli {lo hi : Option E} {l h : Option Int} (ha : Po G a r x) (hl : Pe G r lo l) (hh : Pe G r hi h) (hc : cutD x l h = some d) : Pv G (.sli a lo hi) r d := .of_mk ev_sli fun s => by rw [ha.o, Option.bind_some, hl.ev, Option.bind_some, hh.ev, Option.bind_some, hc]; rfl
theorem pv_rev (ha : Po G a r x) (h0 : isStr x = false) (h : revD x = some d) : Pv G (.rev a) r d := .of_mk ev_rev fun s => by rw [ha.o, Option.bind_some, h0, if_neg (by decide), h]; rfl
theorem pv_lc {own : List Nat} {t : Tg} {k : Ik} {ds : List D} (xs : List D) (g : D → D) (h1 : Pos G es r ds) (h2 : itD k ds = some xs) (h3 : ∀ x ∈ xs, ∃ r', bindT t x (wipeE r own) = some r' ∧ Pv G e r' (g x)) : Pv G (.lc own t k es [] e) r (.lst (xs.map g)) := by
  have o : ∀ s, (ev G (.lc own t k es [] e) r).o s = some (.lst (xs.map g), s) := fun s => lc_o xs g (h1.ev s) h2 fun x hx => by
    obtain ⟨r', e1, e2⟩ := h3 x hx
    exact ⟨r', e1, e2.v s⟩
  exact .of_mk ev_lc fun s => by
    have := o s
    rw [ev_lc] at this
    exact this
theorem pv_lcc {own : List Nat} {t : Tg} {k : Ik} {ds : List D} (xs : List D) (f : D → Bool) (g : D → D) (h1 : Pos G es r ds) (h2 : itD k ds = some xs) (h3 : ∀ x ∈ xs, ∃ r', bindT t x (wipeE r own) = some r' ∧ Po G c r' (.bl (f x)) ∧ (f x = true → Pv G e r' (g x))) : Pv G (.lc own t k es [c] e) r (.lst ((xs.filter f).map g)) := by
  have o : ∀ s, (ev G (.lc own t k es [c] e) r).o s = some (.lst ((xs.filter f).map g), s) := fun s => lcc_o xs f g (h1.ev s) h2 fun x hx => by
    obtain ⟨r', e1, e2, e3⟩ := h3 x hx
    exact ⟨r', e1, e2.t s _ rfl, fun hp => (e3 hp).v s⟩
  exact .of_mk ev_lc fun s => by
    have := o s
    rw [ev_lc] at this
    exact this
theorem pv_all {own : List Nat} {t : Tg} {k : Ik} {ds : List D} (xs : List D) (g : D → Bool) (h1 : Pos G es r ds) (h2 : itD k ds = some xs) (h3 : ∀ x ∈ xs, ∃ r', bindT t x (wipeE r own) = some r' ∧ Pv G e r' (.bl (g x))) : Pv G (.bi .all [.lc own t k es [] e]) r (.bl (xs.all g)) :=
  pv_bi (pos_cons (pv_lc xs (fun x => .bl (g x)) h1 h2 h3).toPo pos_nil) (bi_all g xs)
theorem pv_any {own : List Nat} {t : Tg} {k : Ik} {ds : List D} (xs : List D) (g : D → Bool) (h1 : Pos G es r ds) (h2 : itD k ds = some xs) (h3 : ∀ x ∈ xs, ∃ r', bindT t x (wipeE r own) = some r' ∧ Pv G e r' (.bl (g x))) : Pv G (.bi .any [.lc own t k es [] e]) r (.bl (xs.any g)) :=
  pv_bi (pos_cons (pv_lc xs (fun x => .bl (g x)) h1 h2 h3).toPo pos_nil) (bi_any g xs)
/-! with a tape that goes on -/
section
variable {s s1 s2 : T}
theorem and_t (h : (ev G a r).t s = some (true, s1)) : (ev G (.and_ a b) r).t s = (ev G b r).t s1 := by
  rw [ev_and]
  show ((ev G a r).t s).bind _ = _
  rw [h]
  rfl
theorem cmp_t {o : Cp} (ha : (ev G a r).o s = some (x, s1)) (hb : (ev G b r).o s1 = some (y, s2)) (h : cmpD o x y = some p) : (ev G (.cmp o a b) r).t s = some (p, s2) := by
  rw [ev_cmp]
  show ((((ev G a r).o s).bind _).bind _) = _
  rw [ha, Option.bind_some, hb, Option.bind_some, h]
  rfl
theorem bin_o {o : Op} (ha : (ev G a r).o s = some (x, s1)) (hb : (ev G b r).o s1 = some (y, s2)) (h : binD o x y = some d) : (ev G (.bin o a b) r).o s = some (d, s2) := by
  rw [ev_bin]
  show (((ev G a r).o s).bind _) = _
  rw [ha, Option.bind_some, hb, Option.bind_some, h]
  rfl
theorem bin_v {o : Op} (ha : (ev G a r).o s = some (x, s1)) (hb : (ev G b r).o s1 = some (y, s2)) (h : binD o x y = some d) : (ev G (.bin o a b) r).v s = some (d, s2) := by
  rw [ev_bin]
  show (((ev G a r).o s).bind _) = _
  rw [ha, Option.bind_some, hb, Option.bind_some, h]
  rfl
theorem sub_v (ha : (ev G a r).o s = some (x, s1)) (hb : (ev G b r).o s1 = some (y, s2)) (h : subD x y = some d) : (ev G (.sub a b) r).v s = some (d, s2) := by
  rw [ev_sub]
  show (((ev G a r).o s).bind _) = _
  rw [ha, Option.bind_some, hb, Option.bind_some, h]
  rfl
theorem tup_o {ds : List D} (h : evs G es r s = some (ds, s1)) : (ev G (.tup es) r).o s = some (.tup ds, s1) := by
  rw [ev_tup]
  show (evs G es r s).map _ = _
  rw [h]
  rfl
theorem tup_v {ds : List D} (h : evs G es r s = some (ds, s1)) : (ev G (.tup es) r).v s = some (.tup ds, s1) := by
  rw [ev_tup]
  show (evs G es r s).map _ = _
  rw [h]
  rfl
theorem evs_one' (h : (ev G e r).v s = some (d, s1)) : evs G [e] r s = some ([d], s1) := by
  rw [evs_cons, h, Option.bind_some, evs_nil]
  rfl
theorem efor' {wn : Nat} {t : Tg} {k : Ik} {bd : List S} {ds ys : List D} (h : evs G es r s = some (ds, s1)) (hi : itD k ds = some ys) : ex G wn (.for_ t k es bd) r s = forF (foT G wn t bd) ys r s1 := by
  rw [ex_for, h, Option.bind_some, hi, Option.bind_some]
theorem bi_v {o : Bi} {ds : List D} (h : evos G es r s = some (ds, s1)) (hc : biD o ds = some d) : (ev G (.bi o es) r).v s = some (d, s1) := by
  rw [ev_bi]
  show (evos G es r s).bind _ = _
  rw [h, Option.bind_some, hc]
  rfl
theorem evos_one'' (h : (ev G e r).o s = some (d, s1)) : evos G [e] r s = some ([d], s1) := by
  rw [evos_cons, h, Option.bind_some, evos_nil]
  rfl
/-- a comprehension that draws -/
theorem lc_draw {own : List Nat} {t : Tg} {k : Ik} {ds xs : List D} {P : D → Prop} (h : evos G es r s = some (ds, s1)) (hi : itD k ds = some xs) (hs : TOk s1) (hf : ∀ x ∈ xs, ∃ r', bindT t x (wipeE r own) = some r' ∧ ∀ s, TOk s → ∃ d s', (ev G e r').v s = some (d, s') ∧ P d ∧ TOk s') :
    ∃ us s2, (ev G (.lc own t k es [] e) r).o s = some (.lst us, s2) ∧ (ev G (.lc own t k es [] e) r).v s = some (.lst us, s2) ∧ us.length = xs.length ∧ (∀ u ∈ us, P u) ∧ TOk s2 := by
  obtain ⟨us, s2, e1, h1, h2, h3⟩ := lcF_draw (f := lcT G own t [] e r) (P := P) hs (xs := xs) fun x hx s hs => by
    obtain ⟨r', e1, e2⟩ := hf x hx
    obtain ⟨d, s', e3, p, t'⟩ := e2 s hs
    refine ⟨d, s', ?_, p, t'⟩
    unfold lcT
    rw [e1, Option.bind_some, evts_nil, Option.bind_some, if_pos rfl, e3]
    rfl
  have v : (ev G (.lc own t k es [] e) r).v s = some (.lst us, s2) := by
    rw [ev_lc]
    show (evos G es r s).bind _ = _
    rw [h, Option.bind_some, hi, Option.bind_some, e1]
    rfl
  refine ⟨us, s2, ?_, v, h1, h2, h3⟩
  rw [← v, ev_lc]
  rfl
theorem set_nx {wn : Nat} {i : Nat} (h : (ev G e r).v s = some (d, s1)) : ex G wn (.set i false e) r s = some (.nx (r.set i (some (false, d))) s1) := by
  rw [ex_set, h]
  rfl
theorem app_nx {wn : Nat} {i : Nat} {zs : List D} (h : (ev G e r).v s = some (d, s1)) (ho : ownL r i = some zs) (hz : zs.length < szL) : ex G wn (.app i e) r s = some (.nx (r.set i (some (true, .lst (zs ++ [d])))) s1) := by
  rw [ex_app, h, Option.bind_some, ho, Option.bind_some, if_pos hz]
end
/-! statements -/
variable {s : T} {xs : List S}
theorem Pv.ret (h : Pv G e r d) : out (exs G wn (.ret e :: xs) r s) = some (d, s) := by rw [out_ret, h.v]
theorem Po.ife (h : Po G c r d) (hd : truD d = some p) : out (exs G wn (.ife c [.ret a] [] :: xs) r s) = if p then (ev G a r).v s else out (exs G wn xs r s) := by rw [out_ife, h.t s p hd, Option.bind_some]
theorem Pv.set {i : Nat} (h : Pv G e r d) : out (exs G wn (.set i false e :: xs) r s) = out (exs G wn xs (r.set i (some (false, d))) s) := by
  rw [out_set, h.v, Option.bind_some]
  rfl
theorem Pv.setT {i : Nat} {zs : List D} (h : Pv G e r (.lst zs)) : out (exs G wn (.set i true e :: xs) r s) = out (exs G wn xs (r.set i (some (true, .lst zs))) s) := by
  rw [out_set, h.v, Option.bind_some]
  rfl
theorem exs_nx {x : S} {r' : Env} {s' : T} (h : ex G wn x r s = some (.nx r' s')) : exs G wn (x :: xs) r s = exs G wn xs r' s' := by rw [exs_cons, h]; rfl
theorem exs_rt {x : S} {s' : T} (h : ex G wn x r s = some (.rt d s')) : exs G wn (x :: xs) r s = some (.rt d s') := by rw [exs_cons, h]; rfl
theorem Pv.eset {i : Nat} (h : Pv G e r d) : ex G wn (.set i false e) r s = some (.nx (r.set i (some (false, d))) s) := by
  rw [ex_set, h.v]
  rfl
theorem Pv.esetT {i : Nat} {zs : List D} (h : Pv G e r (.lst zs)) : ex G wn (.set i true e) r s = some (.nx (r.set i (some (true, .lst zs))) s) := by
  rw [ex_set, h.v]
  rfl
theorem Pv.eret (h : Pv G e r d) : ex G wn (.ret e) r s = some (.rt d s) := by
  rw [ex_ret, h.v]
  rfl
theorem Po.eife {as bs : List S} (h : Po G c r d) (hd : truD d = some p) : ex G wn (.ife c as bs) r s = if p then exs G wn as r s else exs G wn bs r s := by
  rw [ex_ife, h.t s p hd]
  rfl
theorem Pv.eapp {i : Nat} {zs : List D} (h : Pv G e r d) (ho : ownL r i = some zs) (hz : zs.length < szL) : ex G wn (.app i e) r s = some (.nx (r.set i (some (true, .lst (zs ++ [d])))) s) := by
  rw [ex_app, h.v, Option.bind_some, ho, Option.bind_some, if_pos hz]
theorem Pv.eext {i : Nat} {zs ys : List D} (h : Pv G e r (.lst ys)) (ho : ownL r i = some zs) (hz : zs.length + ys.length ≤ szL) : ex G wn (.ext i e) r s = some (.nx (r.set i (some (true, .lst (zs ++ ys)))) s) := by
  rw [ex_ext, h.v, Option.bind_some, ho, Option.bind_some]
  exact if_pos hz
theorem out_nx {r' : Env} {s' : T} {x : S} (h : ex G wn x r s = some (.nx r' s')) : out (exs G wn (x :: xs) r s) = out (exs G wn xs r' s') := by rw [exs_nx h]
theorem efor {t : Tg} {k : Ik} {b : List S} {ds ys : List D} (h : Pvs G es r ds) (hi : itD k ds = some ys) : ex G wn (.for_ t k es b) r s = forF (foT G wn t b) ys r s := by
  rw [ex_for, h.ev, Option.bind_some, hi, Option.bind_some]
def aft (G : Gl) (wn : Nat) (xs : List S) : R → Option (D × T)
  | .nx r' s' => out (exs G wn xs r' s')
  | .rt d s' => some (d, s')
  | _ => none
theorem aft_ret (h : Pv G e r d) : aft G wn (.ret e :: xs) (.nx r s) = some (d, s) := h.ret
theorem out_for {t : Tg} {k : Ik} {b : List S} {ds ys : List D} {o : R} (h : Pvs G es r ds) (hi : itD k ds = some ys) (hf : forF (foT G wn t b) ys r s = some o) : out (exs G wn (.for_ t k es b :: xs) r s) = aft G wn xs o := by
  rw [exs_cons, ex_for, h.ev, Option.bind_some, hi, Option.bind_some, hf]
  cases o <;> rfl
end

/-! ### reading sequences -/
theorem ixP_nat {n i : Nat} (h : i < n) : ixP n (i : Int) = some i := by
  unfold ixP
  rw [if_pos (by omega), if_pos (by omega)]
  simp
theorem sub_tup {xs : List D} {i : Nat} {d : D} (h : xs[i]? = some d) : subD (.tup xs) (.int (i : Int)) = some d := by
  have hl : i < xs.length := (List.getElem?_eq_some_iff.mp h).1
  show (ixP xs.length (i : Int)).bind _ = _
  rw [ixP_nat hl]
  exact h
theorem sub_lst {xs : List D} {i : Nat} {d : D} (h : xs[i]? = some d) : subD (.lst xs) (.int (i : Int)) = some d := by
  have hl : i < xs.length := (List.getElem?_eq_some_iff.mp h).1
  show (ixP xs.length (i : Int)).bind _ = _
  rw [ixP_nat hl]
  exact h
theorem sub_lst0 {d : D} {ds : List D} : subD (.lst (d :: ds)) (.int 0) = some d := sub_lst (i := 0) rfl
theorem sub_tup0 {d : D} {ds : List D} : subD (.tup (d :: ds)) (.int 0) = some d := sub_tup (i := 0) rfl
theorem rng0 {n : Nat} (h : n ≤ szL) : itD .rng [.int (n : Int)] = some (rngL 0 n) := by
  show (if (n : Int) ≤ (szL : Int) ∧ -1000000 ≤ (n : Int) then some (rngL 0 (n : Int).toNat) else none) = _
  rw [if_pos ⟨by omega, by omega⟩]
  simp
theorem mem_rngL {n : Nat} {x : D} (h : x ∈ rngL 0 n) : ∃ i : Nat, i < n ∧ x = .int (i : Int) := by
  unfold rngL at h
  obtain ⟨i, hi, e⟩ := List.mem_map.mp h
  exact ⟨i, List.mem_range.mp hi, by rw [← e, Int.zero_add]⟩
theorem all_rngL {n : Nat} {p : D → Bool} : (rngL 0 n).all p = true ↔ ∀ i : Nat, i < n → p (.int (i : Int)) = true := by
  unfold rngL
  rw [List.all_eq_true]
  constructor
  · intro h i hi
    have := h (.int (0 + (i : Int))) (List.mem_map.mpr ⟨i, List.mem_range.mpr hi, rfl⟩)
    rw [Int.zero_add] at this
    exact this
  · intro h x hx
    obtain ⟨i, hi, e⟩ := List.mem_map.mp hx
    rw [← e, Int.zero_add]
    exact h i (List.mem_range.mp hi)
theorem any_rngL {n : Nat} {p : D → Bool} : (rngL 0 n).any p = true ↔ ∃ i : Nat, i < n ∧ p (.int (i : Int)) = true := by
  unfold rngL
  rw [List.any_eq_true]
  constructor
  · rintro ⟨x, hx, h⟩
    obtain ⟨i, hi, e⟩ := List.mem_map.mp hx
    rw [← e, Int.zero_add] at h
    exact ⟨i, List.mem_range.mp hi, h⟩
  · rintro ⟨i, hi, h⟩
    exact ⟨.int (0 + (i : Int)), List.mem_map.mpr ⟨i, List.mem_range.mpr hi, rfl⟩, by rw [Int.zero_add]; exact h⟩

/-! ### sorting -/
theorem insB_end {α : Type} {lt : α → α → Bool} {x : α} : ∀ {ys : List α}, (∀ y ∈ ys, lt x y = false) → insB lt x ys = ys ++ [x]
  | [], _ => rfl
  | y :: ys, h => by
    unfold insB
    rw [h y List.mem_cons_self, if_neg (by decide), insB_end fun z hz => h z (List.mem_cons_of_mem _ hz)]
    rfl
theorem foldl_end {α : Type} {lt : α → α → Bool} : ∀ {xs acc : List α}, (acc ++ xs).Pairwise (fun a b => lt b a = false) → xs.foldl (fun acc x => insB lt x acc) acc = acc ++ xs
  | [], acc, _ => by simp
  | x :: xs, acc, h => by
    rw [List.foldl_cons, insB_end]
    · rw [foldl_end (by rw [List.append_assoc]; exact h), List.append_assoc]
      rfl
    · intro y hy
      exact (List.pairwise_append.mp h).2.2 y hy x List.mem_cons_self
/-- what stands in order stays -/
theorem sortB_id {α : Type} {lt : α → α → Bool} {xs : List α} (h : xs.Pairwise (fun a b => lt b a = false)) : sortB lt xs = xs := by
  unfold sortB
  rw [foldl_end (by simpa using h)]
  rfl
theorem mem_insB {α : Type} {lt : α → α → Bool} {x y : α} : ∀ {ys : List α}, y ∈ insB lt x ys ↔ y = x ∨ y ∈ ys
  | [] => by simp [insB]
  | z :: ys => by
    unfold insB
    split
    · simp
    · rw [List.mem_cons, mem_insB, List.mem_cons]
      constructor
      · rintro (h | h | h)
        · exact .inr (.inl h)
        · exact .inl h
        · exact .inr (.inr h)
      · rintro (h | h | h)
        · exact .inr (.inl h)
        · exact .inl h
        · exact .inr (.inr h)
theorem insP_sorted {α : Type} {lt : α → α → Bool} (tr : ∀ a b c, lt b a = false → lt c b = false → lt c a = false) (asym : ∀ a b, lt a b = true → lt b a = false) {x : α} : ∀ {ys : List α}, ys.Pairwise (fun a b => lt b a = false) → (insB lt x ys).Pairwise (fun a b => lt b a = false)
  | [], _ => by simp [insB]
  | y :: ys, h => by
    unfold insB
    split
    · rename_i hx
      refine List.pairwise_cons.mpr ⟨fun z hz => ?_, h⟩
      rcases List.mem_cons.mp hz with rfl | hz
      · exact asym _ _ hx
      · exact tr _ _ _ (asym _ _ hx) ((List.pairwise_cons.mp h).1 z hz)
    · rename_i hx
      refine List.pairwise_cons.mpr ⟨fun z hz => ?_, insP_sorted tr asym (List.pairwise_cons.mp h).2⟩
      rcases mem_insB.mp hz with rfl | hz
      · exact Bool.eq_false_iff.mpr hx
      · exact (List.pairwise_cons.mp h).1 z hz
theorem foldl_sorted {α : Type} {lt : α → α → Bool} (tr : ∀ a b c, lt b a = false → lt c b = false → lt c a = false) (asym : ∀ a b, lt a b = true → lt b a = false) : ∀ {xs acc : List α}, acc.Pairwise (fun a b => lt b a = false) → (xs.foldl (fun acc x => insB lt x acc) acc).Pairwise (fun a b => lt b a = false)
  | [], _, h => h
  | x :: xs, acc, h => by
    rw [List.foldl_cons]
    exact foldl_sorted tr asym (insP_sorted tr asym h)
theorem sortB_sorted {α : Type} {lt : α → α → Bool} (tr : ∀ a b c, lt b a = false → lt c b = false → lt c a = false) (asym : ∀ a b, lt a b = true → lt b a = false) (xs : List α) : (sortB lt xs).Pairwise (fun a b => lt b a = false) := foldl_sorted tr asym List.Pairwise.nil
theorem mem_foldl {α : Type} {lt : α → α → Bool} {y : α} : ∀ {xs acc : List α}, y ∈ xs.foldl (fun acc x => insB lt x acc) acc ↔ y ∈ xs ∨ y ∈ acc
  | [], acc => by simp
  | x :: xs, acc => by
    rw [List.foldl_cons, mem_foldl, mem_insB, List.mem_cons]
    constructor
    · rintro (h | h | h)
      · exact .inl (.inr h)
      · exact .inl (.inl h)
      · exact .inr h
    · rintro ((h | h) | h)
      · exact .inr (.inl h)
      · exact .inl h
      · exact .inr (.inr h)
theorem mem_sortB {α : Type} {lt : α → α → Bool} {y : α} {xs : List α} : y ∈ sortB lt xs ↔ y ∈ xs := by
  unfold sortB
  rw [mem_foldl]
  simp
theorem insB_map {α β : Type} {lt : α → α → Bool} {lu : β → β → Bool} {f : α → β} (h : ∀ a b, lu (f a) (f b) = lt a b) {x : α} : ∀ {ys : List α}, insB lu (f x) (ys.map f) = (insB lt x ys).map f
  | [] => rfl
  | y :: ys => by
    rw [List.map_cons]
    unfold insB
    rw [h]
    split
    · rfl
    · rw [insB_map h]; rfl
theorem sortB_map {α β : Type} {lt : α → α → Bool} {lu : β → β → Bool} {f : α → β} (h : ∀ a b, lu (f a) (f b) = lt a b) (xs : List α) : sortB lu (xs.map f) = (sortB lt xs).map f := by
  have : ∀ (xs acc : List α), (xs.map f).foldl (fun acc x => insB lu x acc) (acc.map f) = (xs.foldl (fun acc x => insB lt x acc) acc).map f := by
    intro xs
    induction xs with
    | nil => intro acc; rfl
    | cons x xs ih =>
      intro acc
      rw [List.map_cons, List.foldl_cons, List.foldl_cons, insB_map h, ih]
  exact this xs []
/-- numbers -/
def ltI (a b : Int) : Bool := decide (a < b)
theorem sort_ints (ns : List Int) : sortD (ns.map .int) = (sortB ltI ns).map .int := sortB_map (fun _ _ => rfl) ns
theorem sortI_sorted (ns : List Int) : (sortB ltI ns).Pairwise (· ≤ ·) := (sortB_sorted (lt := ltI) (fun a b c h1 h2 => by simp [ltI] at *; omega) (fun a b h => by simp [ltI] at *; omega) ns).imp fun h => by simp [ltI] at h; exact h
theorem sortI_iff {ns : List Int} : sortB ltI ns = ns ↔ ns.Pairwise (· ≤ ·) := by
  constructor
  · intro h
    have := sortI_sorted ns
    rw [h] at this
    exact this
  · intro h
    exact sortB_id (h.imp fun h => by simp [ltI]; exact h)
theorem sortable_ints (ns : List Int) : sortable (ns.map .int) = true := by
  simp [sortable, alikeD, pl, isAtom, isNon]
theorem eqDs_ints : ∀ (ns ms : List Int), eqDs (ns.map .int) (ms.map .int) = decide (ns = ms)
  | [], [] => by simp [eqDs]
  | [], _ :: _ => by simp [eqDs]
  | _ :: _, [] => by simp [eqDs]
  | n :: ns, m :: ms => by
    simp only [List.map_cons, eqDs, eqD, eqDs_ints ns ms]
    rw [Bool.eq_iff_iff]
    simp
theorem all_pl_ints (n : Nat) (ns : List Int) : (ns.map D.int).all (pl n) = true := by
  rw [List.all_eq_true]
  intro x hx
  obtain ⟨i, _, rfl⟩ := List.mem_map.mp hx
  cases n <;> rfl
end Ip

namespace Law
open Ip
def ft : PySem.Str → Option (Nat × Nat) := fun x => ([("is_number", 0, 3), ("are_windows", 1, 1), ("starts_in_windows", 2, 2), ("are_in_windows", 3, 3), ("_law_draw", 6, 2), ("_law_same", 7, 2), ("_law_bent", 8, 2), ("_law_whole", 9, 3), ("_law_all", 10, 2), ("_law_are_windows", 11, 1)] : List (PySem.Str × Nat × Nat)).lookup x
/-- is_number: 0 value, 1 least, 2 most -/
def u_is_number : List Ip.S := [(.ret (.and_ (.isi .int (.loc 0)) (.and_ (.not_ (.isi .bool (.loc 0))) (.chain .le .le (.loc 1) (.loc 0) (.loc 2)))))]
/-- are_windows: 0 value, 1 k, 2 pair, 3 first, 4 end -/
def u_are_windows : List Ip.S := [(.ife (.or_ (.not_ (.isi .tuple (.loc 0))) (.not_ (.bi .all [(.lc [2] (.nm 2) .seq [(.loc 0)] [] (.and_ (.isi .tuple (.loc 2)) (.cmp .eq (.bi .len [(.loc 2)]) (.con (.int 2)))))]))) [(.ret (.con (.bl false)))] []),
  (.ife (.not_ (.bi .all [(.lc [3, 4] (.tp [(.nm 3), (.nm 4)]) .seq [(.loc 0)] [] (.and_ (.call 0 [(.loc 3), (.con (.int 0)), (.con (.int 200))]) (.call 0 [(.loc 4), (.bin .add (.loc 3) (.con (.int 1))), (.con (.int 200))])))])) [(.ret (.con (.bl false)))] []),
  (.ret (.bi .all [(.lc [1] (.nm 1) .rng [(.bin .sub (.bi .len [(.loc 0)]) (.con (.int 1)))] [] (.cmp .le (.sub (.sub (.loc 0) (.loc 1)) (.con (.int 1))) (.sub (.sub (.loc 0) (.bin .add (.loc 1) (.con (.int 1)))) (.con (.int 0)))))]))]
/-- starts_in_windows: 0 lengths, 1 windows, 2 many, 3 found, 4 free, 5 fit, 6 first, 7 end -/
def u_starts_in_windows : List Ip.S := [(.par [(3, true), (4, false)] [(.lst []), (.con (.int 0))]),
  (.for_ (.nm 2) .seq [(.loc 0)] [(.set 5 false (.lc [6, 7] (.tp [(.nm 6), (.nm 7)]) .seq [(.loc 1)] [(.cmp .le (.bin .add (.bi .max [(.loc 6), (.loc 4)]) (.loc 2)) (.loc 7))] (.bi .max [(.loc 6), (.loc 4)]))),
  (.ife (.not_ (.loc 5)) [(.ret (.con .non))] []),
  (.app 3 (.sub (.loc 5) (.con (.int 0)))),
  (.set 4 false (.bin .add (.sub (.loc 5) (.con (.int 0))) (.loc 2)))]),
  (.ret (.bi .tuple [(.loc 3)]))]
/-- are_in_windows: 0 lengths, 1 windows, 2 value, 3 free, 4 many, 5 start, 6 k, 7 first, 8 end -/
def u_are_in_windows : List Ip.S := [(.ife (.or_ (.not_ (.isi .tuple (.loc 2))) (.or_ (.cmp .ne (.bi .len [(.loc 2)]) (.bi .len [(.loc 0)])) (.not_ (.bi .all [(.lc [6] (.nm 6) .seq [(.loc 2)] [] (.call 0 [(.loc 6), (.con (.int 0)), (.con (.int 200))]))])))) [(.ret (.con (.bl false)))] []),
  (.set 3 false (.con (.int 0))),
  (.for_ (.tp [(.nm 4), (.nm 5)]) .zip [(.loc 0), (.loc 2)] [(.ife (.or_ (.cmp .lt (.loc 5) (.loc 3)) (.not_ (.bi .any [(.lc [7, 8] (.tp [(.nm 7), (.nm 8)]) .seq [(.loc 1)] [] (.and_ (.cmp .le (.loc 7) (.loc 5)) (.cmp .le (.bin .add (.loc 5) (.loc 4)) (.loc 8))))]))) [(.ret (.con (.bl false)))] []),
  (.set 3 false (.bin .add (.loc 5) (.loc 4)))]),
  (.ret (.con (.bl true)))]
/-- _law_same: 0 a, 1 b, 2 k -/
def u__law_same : List Ip.S := [(.ife (.or_ (.and_ (.isi .tuple (.loc 0)) (.isi .tuple (.loc 1))) (.and_ (.isi .list (.loc 0)) (.isi .list (.loc 1)))) [(.ret (.and_ (.cmp .eq (.bi .len [(.loc 0)]) (.bi .len [(.loc 1)])) (.bi .all [(.lc [2] (.nm 2) .rng [(.bi .len [(.loc 0)])] [] (.call 7 [(.sub (.loc 0) (.loc 2)), (.sub (.loc 1) (.loc 2))]))])))] []),
  (.ife (.or_ (.isi .bool (.loc 0)) (.isi .bool (.loc 1))) [(.ret (.and_ (.isi .bool (.loc 0)) (.and_ (.isi .bool (.loc 1)) (.cmp .eq (.loc 0) (.loc 1)))))] []),
  (.ife (.or_ (.and_ (.isi .int (.loc 0)) (.isi .int (.loc 1))) (.and_ (.isi .str (.loc 0)) (.isi .str (.loc 1)))) [(.ret (.cmp .eq (.loc 0) (.loc 1)))] []),
  (.ret (.and_ (.cmp .is (.loc 0) (.con .non)) (.cmp .is (.loc 1) (.con .non))))]
/-- _law_bent: 0 box, 1 value, 2 pick, 3 at -/
def u__law_bent : List Ip.S := [(.ife (.and_ (.isi .tuple (.loc 1)) (.and_ (.cmp .gt (.bi .len [(.loc 1)]) (.con (.int 0))) (.cmp .gt (.call 6 [(.loc 0), (.con (.int 5))]) (.con (.int 0))))) [(.set 3 false (.call 6 [(.loc 0), (.bi .len [(.loc 1)])])),
  (.ret (.bin .add (.bin .add (.sli (.loc 1) none (some (.loc 3))) (.tup [(.call 8 [(.loc 0), (.sub (.loc 1) (.loc 3))])])) (.sli (.loc 1) (some (.bin .add (.loc 3) (.con (.int 1)))) none)))] []),
  (.set 2 false (.call 6 [(.loc 0), (.con (.int 8))])),
  (.ife (.isi .tuple (.loc 1)) [(.ret (.sub (.lst [(.bin .add (.loc 1) (.sli (.loc 1) none (some (.con (.int 1))))), (.sli (.loc 1) (some (.con (.int 1))) none), (.rev (.loc 1)), (.bin .add (.loc 1) (.tup [(.con (.int 0))])), (.bin .add (.sli (.loc 1) none (some (.con (.int 1)))) (.loc 1)), (.sli (.loc 1) none (some (.neg (.con (.int 1))))), (.con .non), (.sli (.loc 1) none (some (.con (.int 1))))]) (.loc 2)))] []),
  (.ife (.and_ (.isi .int (.loc 1)) (.not_ (.isi .bool (.loc 1)))) [(.ret (.sub (.lst [(.bin .add (.loc 1) (.con (.int 1))), (.bin .sub (.loc 1) (.con (.int 1))), (.neg (.loc 1)), (.cmp .eq (.loc 1) (.con (.int 1))), (.con .non), (.bi .str [(.loc 1)]), (.tup [(.loc 1)]), (.bin .add (.loc 1) (.con (.int 1001)))]) (.loc 2)))] []),
  (.ife (.isi .str (.loc 1)) [(.ret (.sub (.lst [(.bin .add (.loc 1) (.con (.str [97]))), (.sli (.loc 1) (some (.con (.int 1))) none), (.con (.str [97, 110, 121])), .bad, (.con (.int 0)), (.con (.str [])), (.bin .add (.loc 1) (.con (.str [122, 48, 122, 48, 122, 48, 122, 48]))), (.tup [(.loc 1)])]) (.loc 2)))] []),
  (.ret (.sub (.lst [(.con (.int 0)), (.con (.int 1)), (.con .non), (.con (.bl true)), (.con (.bl false)), (.con (.str [97])), (.tup []), (.neg (.con (.int 1)))]) (.loc 2)))]
/-- _law_whole: 0 value, 1 low, 2 high -/
def u__law_whole : List Ip.S := [(.ret (.and_ (.isi .int (.loc 0)) (.and_ (.not_ (.isi .bool (.loc 0))) (.chain .le .le (.loc 1) (.loc 0) (.loc 2)))))]
/-- _law_all: 0 lengths, 1 windows, 2 rows, 3 many, 4 grown, 5 row, 6 free, 7 first, 8 end, 9 start -/
def u__law_all : List Ip.S := [(.set 2 false (.lst [(.tup [(.tup []), (.con (.int 0))])])),
  (.for_ (.nm 3) .seq [(.loc 0)] [(.set 4 true (.lst [])),
  (.for_ (.tp [(.nm 5), (.nm 6)]) .seq [(.loc 2)] [(.for_ (.tp [(.nm 7), (.nm 8)]) .seq [(.loc 1)] [(.ext 4 (.lc [9] (.nm 9) .rng [(.bi .max [(.loc 7), (.loc 6)]), (.bin .add (.bin .sub (.loc 8) (.loc 3)) (.con (.int 1)))] [] (.tup [(.bin .add (.loc 5) (.tup [(.loc 9)])), (.bin .add (.loc 9) (.loc 3))])))])]),
  (.fz [4] (.set 2 false (.loc 4)))]),
  (.ret (.bi .sorted [(.lc [5, 6] (.tp [(.nm 5), (.nm 6)]) .seq [(.loc 2)] [] (.loc 5))]))]
/-- _law_are_windows: 0 value, 1 spots, 2 pair, 3 part -/
def u__law_are_windows : List Ip.S := [(.ife (.or_ (.not_ (.isi .tuple (.loc 0))) (.not_ (.bi .all [(.lc [2] (.nm 2) .seq [(.loc 0)] [] (.and_ (.isi .tuple (.loc 2)) (.and_ (.cmp .eq (.bi .len [(.loc 2)]) (.con (.int 2))) (.bi .all [(.lc [3] (.nm 3) .seq [(.loc 2)] [] (.call 9 [(.loc 3), (.con (.int 0)), (.con (.int 200))]))]))))]))) [(.ret (.con (.bl false)))] []),
  (.set 1 true (.lst [])),
  (.for_ (.nm 2) .seq [(.loc 0)] [(.ext 1 (.loc 2))]),
  (.ret (.and_ (.cmp .eq (.loc 1) (.bi .sorted [(.loc 1)])) (.bi .all [(.lc [2] (.nm 2) .seq [(.loc 0)] [] (.cmp .lt (.sub (.loc 2) (.con (.int 0))) (.sub (.loc 2) (.con (.int 1)))))])))]
/-- law: 0 script, 1 box, 2 turn, 3 lengths, 4 k, 5 windows, 6 rows, 7 starts, 8 one, 9 values, 10 value, 11 at, 12 first, 13 fits, 14 row, 15 part, 16 many -/
def u_law : List Ip.S := [(.for_ (.nm 2) .rng [(.con (.int 6))] [(.set 3 false (.bi .tuple [(.lc [4] (.nm 4) .rng [(.call 6 [(.loc 1), (.con (.int 5))])] [] (.bin .add (.con (.int 1)) (.call 6 [(.loc 1), (.con (.int 4))])))])),
  (.par [(5, true), (11, false)] [(.lst []), (.con (.int 0))]),
  (.for_ (.nm 4) .rng [(.call 6 [(.loc 1), (.con (.int 5))])] [(.set 12 false (.bin .add (.loc 11) (.call 6 [(.loc 1), (.con (.int 4))]))),
  (.set 11 false (.bin .add (.bin .add (.loc 12) (.con (.int 1))) (.call 6 [(.loc 1), (.con (.int 6))]))),
  (.app 5 (.tup [(.loc 12), (.loc 11)]))]),
  (.set 5 false (.bi .tuple [(.loc 5)])),
  (.fz [5] (.set 6 false (.call 10 [(.loc 3), (.loc 5)]))),
  (.fz [5] (.set 7 false (.call 2 [(.loc 3), (.loc 5)]))),
  (.ife (.not_ (.call 7 [(.loc 7), (.ite (.cmp .ne (.loc 6) (.lst [])) (.sub (.loc 6) (.con (.int 0))) (.con .non))])) [(.ret (.con (.bl false)))] []),
  (.ife (.cmp .isNot (.loc 7) (.con .non)) [(.ife (.bi .any [(.lc [14] (.nm 14) .seq [(.loc 6)] [] (.bi .any [(.lc [4] (.nm 4) .rng [(.bi .len [(.loc 3)])] [] (.cmp .lt (.sub (.loc 14) (.loc 4)) (.sub (.loc 7) (.loc 4))))]))]) [(.ret (.con (.bl false)))] []),
  (.fz [5] (.ife (.or_ (.cmp .ne (.call 2 [(.loc 3), (.bin .add (.loc 5) (.tup [(.tup [(.bin .add (.loc 11) (.con (.int 1))), (.bin .add (.loc 11) (.con (.int 3)))])]))]) (.loc 7)) (.cmp .is (.call 2 [(.bi .tuple [(.lc [16] (.nm 16) .seq [(.loc 3)] [] (.bi .max [(.con (.int 1)), (.bin .sub (.loc 16) (.con (.int 1)))]))]), (.loc 5)]) (.con .non))) [(.ret (.con (.bl false)))] []))] []),
  (.set 8 false (.ite (.cmp .ne (.loc 6) (.lst [])) (.sub (.loc 6) (.call 6 [(.loc 1), (.bi .len [(.loc 6)])])) (.bin .mul (.tup [(.con (.int 0))]) (.bi .len [(.loc 3)])))),
  (.fz [5] (.set 9 false (.lst [(.loc 7), (.loc 8), (.rev (.loc 8)), (.sli (.loc 8) (some (.con (.int 1))) none), (.bin .add (.loc 8) (.tup [(.con (.int 0))])), (.loc 5), (.rev (.loc 5)), (.bin .add (.loc 5) (.sli (.loc 5) none (some (.con (.int 1))))), (.tup [(.tup [(.con (.int 3)), (.con (.int 3))])]), (.tup [(.tup [(.con (.int 0)), (.con (.int 201))])])]))),
  (.fz [5] (.for_ (.nm 10) .seq [(.bin .add (.bin .add (.bin .add (.loc 9) (.lst [(.tup [(.tup [(.con (.bl true)), (.con (.int 2))])]), (.con .non), (.tup []), (.con (.int 0))])) (.lc [4] (.nm 4) .rng [(.con (.int 4))] [] (.call 8 [(.loc 1), (.loc 8)]))) (.lc [4] (.nm 4) .rng [(.con (.int 4))] [] (.call 8 [(.loc 1), (.loc 5)])))] [(.set 13 false (.and_ (.isi .tuple (.loc 10)) (.and_ (.cmp .eq (.bi .len [(.loc 10)]) (.bi .len [(.loc 3)])) (.and_ (.bi .all [(.lc [15] (.nm 15) .seq [(.loc 10)] [] (.call 9 [(.loc 15), (.con (.int 0)), (.con (.int 200))]))]) (.cmp .in_ (.loc 10) (.loc 6)))))),
  (.fz [5] (.ife (.not_ (.call 7 [(.tup [(.call 3 [(.loc 3), (.loc 5), (.loc 10)]), (.call 1 [(.loc 10)])]), (.tup [(.loc 13), (.call 11 [(.loc 10)])])])) [(.ret (.con (.bl false)))] []))]))]),
  (.ret (.con (.bl true)))]
def dsL : List (Option Df) := [some ⟨3, 0, u_is_number⟩, some ⟨1, 4, u_are_windows⟩, some ⟨2, 6, u_starts_in_windows⟩, some ⟨3, 6, u_are_in_windows⟩, none, none, none, some ⟨2, 1, u__law_same⟩, some ⟨2, 2, u__law_bent⟩, some ⟨3, 0, u__law_whole⟩, some ⟨2, 8, u__law_all⟩, some ⟨1, 3, u__law_are_windows⟩, none]
def tb (wn : Nat) : Tb := ⟨fun i => if i = 6 then some pDraw else none, fun i => dsL.getD i none, ft, wn⟩
def e_law : Env := env0 17 1
end Law

namespace Law
open PySem PySem.Spec PyProof.Rows L2 Ip
def top (i : Nat) : Stmt := PySem.Challenge.pw_schemasmoved_k68_whole_windows.main.body.getD i (.Pass ⟨0, 0, 0, 0⟩)
abbrev s_is_number : Stmt := top 1
abbrev s_are_windows : Stmt := top 3
abbrev s_starts_in_windows : Stmt := top 4
abbrev s_are_in_windows : Stmt := top 5
abbrev s__law_box : Stmt := top 7
abbrev s__law_load : Stmt := top 8
abbrev s__law_draw : Stmt := top 9
abbrev s__law_same : Stmt := top 10
abbrev s__law_bent : Stmt := top 11
abbrev s__law_whole : Stmt := top 12
abbrev s__law_all : Stmt := top 13
abbrev s__law_are_windows : Stmt := top 14
abbrev s_law : Stmt := top 15
abbrev N_is_number : List Str := ["value", "least", "most"]
abbrev N_are_windows : List Str := ["value", "k", "pair", "first", "end"]
abbrev N_starts_in_windows : List Str := ["lengths", "windows", "many", "found", "free", "fit", "first", "end"]
abbrev N_are_in_windows : List Str := ["lengths", "windows", "value", "free", "many", "start", "k", "first", "end"]
abbrev N__law_same : List Str := ["a", "b", "k"]
abbrev N__law_bent : List Str := ["box", "value", "pick", "at"]
abbrev N__law_whole : List Str := ["value", "low", "high"]
abbrev N__law_all : List Str := ["lengths", "windows", "rows", "many", "grown", "row", "free", "first", "end", "start"]
abbrev N__law_are_windows : List Str := ["value", "spots", "pair", "part"]
abbrev N_law : List Str := ["script", "box", "turn", "lengths", "k", "windows", "rows", "starts", "one", "values", "value", "at", "first", "fits", "row", "part", "many"]
section
variable {W : Wd} {G : Gl} {wn : Nat}
theorem b_is_number : SSs ⟨N_is_number, defScope s_is_number, fun _ => true, ft⟩ W G wn (defBody s_is_number) u_is_number :=
  (sss_cons (ss_ret (se_and (sb_and (se_isi .int (se_var 0)) (sb_and (se_not (se_isi .bool (se_var 0))) (sb_and1 (se_chain .le .le (se_var 1) (se_var 0) (se_var 2)))))))
  sss_nil)
theorem b_are_windows : SSs ⟨N_are_windows, defScope s_are_windows, fun _ => true, ft⟩ W G wn (defBody s_are_windows) u_are_windows :=
  (sss_cons (ss_if (se_or (sb_or (se_not (se_isi .tuple (se_var 0))) (sb_or1 (se_not (se_bi .all (sa_cons (se_lc (Lc.mk (own := [("pair", 2)]) (si_seq (se_var 0)) ⟨rfl, by decide +kernel, by decide +kernel, by decide +kernel, by decide +kernel⟩ (sg_nm 2) st_nil (se_and (sb_and (se_isi .tuple (se_var 2)) (sb_and1 (se_cmp .eq (se_bi .len (sa_cons (se_var 2) sa_nil)) se_int)))))) sa_nil)))))) (sss_cons (ss_ret se_bl)
  sss_nil) sss_nil)
  (sss_cons (ss_if (se_not (se_bi .all (sa_cons (se_lc (Lc.mk (own := [("first", 3), ("end", 4)]) (si_seq (se_var 0)) ⟨rfl, by decide +kernel, by decide +kernel, by decide +kernel, by decide +kernel⟩ (sg_tp (sgs_cons (sg_nm 3) (sgs_cons (sg_nm 4) sgs_nil))) st_nil (se_and (sb_and (se_call 0 3 rfl (sa_cons (se_var 3) (sa_cons se_int (sa_cons se_int sa_nil)))) (sb_and1 (se_call 0 3 rfl (sa_cons (se_var 4) (sa_cons (se_bin .add (se_var 3) se_int) (sa_cons se_int sa_nil))))))))) sa_nil))) (sss_cons (ss_ret se_bl)
  sss_nil) sss_nil)
  (sss_cons (ss_ret (se_bi .all (sa_cons (se_lc (Lc.mk (own := [("k", 1)]) (si_rng1 (sa_cons (se_bin .sub (se_bi .len (sa_cons (se_var 0) sa_nil)) se_int) sa_nil)) ⟨rfl, by decide +kernel, by decide +kernel, by decide +kernel, by decide +kernel⟩ (sg_nm 1) st_nil (se_cmp .le (se_sub (se_sub (se_var 0) (se_var 1)) se_int) (se_sub (se_sub (se_var 0) (se_bin .add (se_var 1) se_int)) se_int)))) sa_nil)))
  sss_nil)))
theorem b_starts_in_windows : SSs ⟨N_starts_in_windows, defScope s_starts_in_windows, fun _ => true, ft⟩ W G wn (defBody s_starts_in_windows) u_starts_in_windows :=
  (sss_cons (ss_parT2 3 4 true false (sf_lst sa_nil) se_int)
  (sss_cons (ss_for (si_seq (se_var 0)) (sg_nm 2) (sss_cons (ss_setLc 5 false (Lc.mk (own := [("first", 6), ("end", 7)]) (si_seq (se_var 1)) ⟨rfl, by decide +kernel, by decide +kernel, by decide +kernel, by decide +kernel⟩ (sg_tp (sgs_cons (sg_nm 6) (sgs_cons (sg_nm 7) sgs_nil))) (st_one (se_cmp .le (se_bin .add (se_bi .max (sa_cons (se_var 6) (sa_cons (se_var 4) sa_nil))) (se_var 2)) (se_var 7))) (se_bi .max (sa_cons (se_var 6) (sa_cons (se_var 4) sa_nil)))))
  (sss_cons (ss_if (se_not (se_var 5)) (sss_cons (ss_ret se_non)
  sss_nil) sss_nil)
  (sss_cons (ss_app 3 (se_sub (se_var 5) se_int))
  (sss_cons (ss_set 4 false (se_bin .add (se_sub (se_var 5) se_int) (se_var 2)))
  sss_nil)))))
  (sss_cons (ss_ret (se_bi .tuple (sa_cons (se_var 3) sa_nil)))
  sss_nil)))
theorem b_are_in_windows : SSs ⟨N_are_in_windows, defScope s_are_in_windows, fun _ => true, ft⟩ W G wn (defBody s_are_in_windows) u_are_in_windows :=
  (sss_cons (ss_if (se_or (sb_or (se_not (se_isi .tuple (se_var 2))) (sb_or (se_cmp .ne (se_bi .len (sa_cons (se_var 2) sa_nil)) (se_bi .len (sa_cons (se_var 0) sa_nil))) (sb_or1 (se_not (se_bi .all (sa_cons (se_lc (Lc.mk (own := [("k", 6)]) (si_seq (se_var 2)) ⟨rfl, by decide +kernel, by decide +kernel, by decide +kernel, by decide +kernel⟩ (sg_nm 6) st_nil (se_call 0 3 rfl (sa_cons (se_var 6) (sa_cons se_int (sa_cons se_int sa_nil)))))) sa_nil))))))) (sss_cons (ss_ret se_bl)
  sss_nil) sss_nil)
  (sss_cons (ss_set 3 false se_int)
  (sss_cons (ss_for (si_zip (sa_cons (se_var 0) (sa_cons (se_var 2) sa_nil))) (sg_tp (sgs_cons (sg_nm 4) (sgs_cons (sg_nm 5) sgs_nil))) (sss_cons (ss_if (se_or (sb_or (se_cmp .lt (se_var 5) (se_var 3)) (sb_or1 (se_not (se_bi .any (sa_cons (se_lc (Lc.mk (own := [("first", 7), ("end", 8)]) (si_seq (se_var 1)) ⟨rfl, by decide +kernel, by decide +kernel, by decide +kernel, by decide +kernel⟩ (sg_tp (sgs_cons (sg_nm 7) (sgs_cons (sg_nm 8) sgs_nil))) st_nil (se_and (sb_and (se_cmp .le (se_var 7) (se_var 5)) (sb_and1 (se_cmp .le (se_bin .add (se_var 5) (se_var 4)) (se_var 8))))))) sa_nil)))))) (sss_cons (ss_ret se_bl)
  sss_nil) sss_nil)
  (sss_cons (ss_set 3 false (se_bin .add (se_var 5) (se_var 4)))
  sss_nil)))
  (sss_cons (ss_ret se_bl)
  sss_nil))))
theorem b__law_same : SSs ⟨N__law_same, defScope s__law_same, fun _ => true, ft⟩ W G wn (defBody s__law_same) u__law_same :=
  (sss_cons (ss_if (se_or (sb_or (se_and (sb_and (se_isi .tuple (se_var 0)) (sb_and1 (se_isi .tuple (se_var 1))))) (sb_or1 (se_and (sb_and (se_isi .list (se_var 0)) (sb_and1 (se_isi .list (se_var 1)))))))) (sss_cons (ss_ret (se_and (sb_and (se_cmp .eq (se_bi .len (sa_cons (se_var 0) sa_nil)) (se_bi .len (sa_cons (se_var 1) sa_nil))) (sb_and1 (se_bi .all (sa_cons (se_lc (Lc.mk (own := [("k", 2)]) (si_rng1 (sa_cons (se_bi .len (sa_cons (se_var 0) sa_nil)) sa_nil)) ⟨rfl, by decide +kernel, by decide +kernel, by decide +kernel, by decide +kernel⟩ (sg_nm 2) st_nil (se_call 7 2 rfl (sa_cons (se_sub (se_var 0) (se_var 2)) (sa_cons (se_sub (se_var 1) (se_var 2)) sa_nil))))) sa_nil))))))
  sss_nil) sss_nil)
  (sss_cons (ss_if (se_or (sb_or (se_isi .bool (se_var 0)) (sb_or1 (se_isi .bool (se_var 1))))) (sss_cons (ss_ret (se_and (sb_and (se_isi .bool (se_var 0)) (sb_and (se_isi .bool (se_var 1)) (sb_and1 (se_cmp .eq (se_var 0) (se_var 1)))))))
  sss_nil) sss_nil)
  (sss_cons (ss_if (se_or (sb_or (se_and (sb_and (se_isi .int (se_var 0)) (sb_and1 (se_isi .int (se_var 1))))) (sb_or1 (se_and (sb_and (se_isi .str (se_var 0)) (sb_and1 (se_isi .str (se_var 1)))))))) (sss_cons (ss_ret (se_cmp .eq (se_var 0) (se_var 1)))
  sss_nil) sss_nil)
  (sss_cons (ss_ret (se_and (sb_and (se_cmp .is (se_var 0) se_non) (sb_and1 (se_cmp .is (se_var 1) se_non)))))
  sss_nil))))
theorem b__law_bent : SSs ⟨N__law_bent, defScope s__law_bent, fun _ => true, ft⟩ W G wn (defBody s__law_bent) u__law_bent :=
  (sss_cons (ss_if (se_and (sb_and (se_isi .tuple (se_var 1)) (sb_and (se_cmp .gt (se_bi .len (sa_cons (se_var 1) sa_nil)) se_int) (sb_and1 (se_cmp .gt (se_call 6 2 rfl (sa_cons (se_var 0) (sa_cons se_int sa_nil))) se_int))))) (sss_cons (ss_set 3 false (se_call 6 2 rfl (sa_cons (se_var 0) (sa_cons (se_bi .len (sa_cons (se_var 1) sa_nil)) sa_nil))))
  (sss_cons (ss_ret (se_bin .add (se_bin .add (se_sli (se_var 1) so_none (so_some (se_var 3))) (se_tup (sa_cons (se_call 8 2 rfl (sa_cons (se_var 0) (sa_cons (se_sub (se_var 1) (se_var 3)) sa_nil))) sa_nil))) (se_sli (se_var 1) (so_some (se_bin .add (se_var 3) se_int)) so_none)))
  sss_nil)) sss_nil)
  (sss_cons (ss_set 2 false (se_call 6 2 rfl (sa_cons (se_var 0) (sa_cons se_int sa_nil))))
  (sss_cons (ss_if (se_isi .tuple (se_var 1)) (sss_cons (ss_ret (se_sub (se_lst (sa_cons (se_bin .add (se_var 1) (se_sli (se_var 1) so_none (so_some se_int))) (sa_cons (se_sli (se_var 1) (so_some se_int) so_none) (sa_cons (se_rev (se_var 1)) (sa_cons (se_bin .add (se_var 1) (se_tup (sa_cons se_int sa_nil))) (sa_cons (se_bin .add (se_sli (se_var 1) so_none (so_some se_int)) (se_var 1)) (sa_cons (se_sli (se_var 1) so_none (so_some (se_neg se_int))) (sa_cons se_non (sa_cons (se_sli (se_var 1) so_none (so_some se_int)) sa_nil))))))))) (se_var 2)))
  sss_nil) sss_nil)
  (sss_cons (ss_if (se_and (sb_and (se_isi .int (se_var 1)) (sb_and1 (se_not (se_isi .bool (se_var 1)))))) (sss_cons (ss_ret (se_sub (se_lst (sa_cons (se_bin .add (se_var 1) se_int) (sa_cons (se_bin .sub (se_var 1) se_int) (sa_cons (se_neg (se_var 1)) (sa_cons (se_cmp .eq (se_var 1) se_int) (sa_cons se_non (sa_cons (se_bi .str (sa_cons (se_var 1) sa_nil)) (sa_cons (se_tup (sa_cons (se_var 1) sa_nil)) (sa_cons (se_bin .add (se_var 1) se_int) sa_nil))))))))) (se_var 2)))
  sss_nil) sss_nil)
  (sss_cons (ss_if (se_isi .str (se_var 1)) (sss_cons (ss_ret (se_sub (se_lst (sa_cons (se_bin .add (se_var 1) se_str) (sa_cons (se_sli (se_var 1) (so_some se_int) so_none) (sa_cons se_str (sa_cons se_bad (sa_cons se_int (sa_cons se_str (sa_cons (se_bin .add (se_var 1) se_str) (sa_cons (se_tup (sa_cons (se_var 1) sa_nil)) sa_nil))))))))) (se_var 2)))
  sss_nil) sss_nil)
  (sss_cons (ss_ret (se_sub (se_lst (sa_cons se_int (sa_cons se_int (sa_cons se_non (sa_cons se_bl (sa_cons se_bl (sa_cons se_str (sa_cons (se_tup sa_nil) (sa_cons (se_neg se_int) sa_nil))))))))) (se_var 2)))
  sss_nil))))))
theorem b__law_whole : SSs ⟨N__law_whole, defScope s__law_whole, fun _ => true, ft⟩ W G wn (defBody s__law_whole) u__law_whole :=
  (sss_cons (ss_ret (se_and (sb_and (se_isi .int (se_var 0)) (sb_and (se_not (se_isi .bool (se_var 0))) (sb_and1 (se_chain .le .le (se_var 1) (se_var 0) (se_var 2)))))))
  sss_nil)
theorem b__law_all : SSs ⟨N__law_all, defScope s__law_all, fun _ => true, ft⟩ W G wn (defBody s__law_all) u__law_all :=
  (sss_cons (ss_set 2 false (se_lst (sa_cons (se_tup (sa_cons (se_tup sa_nil) (sa_cons se_int sa_nil))) sa_nil)))
  (sss_cons (ss_for (si_seq (se_var 0)) (sg_nm 3) (sss_cons (ss_set 4 true (sf_lst sa_nil))
  (sss_cons (ss_for (si_seq (se_var 2)) (sg_tp (sgs_cons (sg_nm 5) (sgs_cons (sg_nm 6) sgs_nil))) (sss_cons (ss_for (si_seq (se_var 1)) (sg_tp (sgs_cons (sg_nm 7) (sgs_cons (sg_nm 8) sgs_nil))) (sss_cons (ss_ext 4 (se_lc (Lc.mk (own := [("start", 9)]) (si_rng2 (sa_cons (se_bi .max (sa_cons (se_var 7) (sa_cons (se_var 6) sa_nil))) (sa_cons (se_bin .add (se_bin .sub (se_var 8) (se_var 3)) se_int) sa_nil))) ⟨rfl, by decide +kernel, by decide +kernel, by decide +kernel, by decide +kernel⟩ (sg_nm 9) st_nil (se_tup (sa_cons (se_bin .add (se_var 5) (se_tup (sa_cons (se_var 9) sa_nil))) (sa_cons (se_bin .add (se_var 9) (se_var 3)) sa_nil))))))
  sss_nil))
  sss_nil))
  (sss_cons (ss_fz [4] (ss_set 2 false (se_var 4)))
  sss_nil))))
  (sss_cons (ss_ret (se_bi .sorted (sa_cons (se_lc (Lc.mk (own := [("row", 5), ("free", 6)]) (si_seq (se_var 2)) ⟨rfl, by decide +kernel, by decide +kernel, by decide +kernel, by decide +kernel⟩ (sg_tp (sgs_cons (sg_nm 5) (sgs_cons (sg_nm 6) sgs_nil))) st_nil (se_var 5))) sa_nil)))
  sss_nil)))
theorem b__law_are_windows : SSs ⟨N__law_are_windows, defScope s__law_are_windows, fun _ => true, ft⟩ W G wn (defBody s__law_are_windows) u__law_are_windows :=
  (sss_cons (ss_if (se_or (sb_or (se_not (se_isi .tuple (se_var 0))) (sb_or1 (se_not (se_bi .all (sa_cons (se_lc (Lc.mk (own := [("pair", 2)]) (si_seq (se_var 0)) ⟨rfl, by decide +kernel, by decide +kernel, by decide +kernel, by decide +kernel⟩ (sg_nm 2) st_nil (se_and (sb_and (se_isi .tuple (se_var 2)) (sb_and (se_cmp .eq (se_bi .len (sa_cons (se_var 2) sa_nil)) se_int) (sb_and1 (se_bi .all (sa_cons (se_lc (Lc.mk (own := [("part", 3)]) (si_seq (se_var 2)) ⟨rfl, by decide +kernel, by decide +kernel, by decide +kernel, by decide +kernel⟩ (sg_nm 3) st_nil (se_call 9 3 rfl (sa_cons (se_var 3) (sa_cons se_int (sa_cons se_int sa_nil)))))) sa_nil)))))))) sa_nil)))))) (sss_cons (ss_ret se_bl)
  sss_nil) sss_nil)
  (sss_cons (ss_set 1 true (sf_lst sa_nil))
  (sss_cons (ss_for (si_seq (se_var 0)) (sg_nm 2) (sss_cons (ss_ext 1 (se_var 2))
  sss_nil))
  (sss_cons (ss_ret (se_and (sb_and (se_cmp .eq (se_var 1) (se_bi .sorted (sa_cons (se_var 1) sa_nil))) (sb_and1 (se_bi .all (sa_cons (se_lc (Lc.mk (own := [("pair", 2)]) (si_seq (se_var 0)) ⟨rfl, by decide +kernel, by decide +kernel, by decide +kernel, by decide +kernel⟩ (sg_nm 2) st_nil (se_cmp .lt (se_sub (se_var 2) se_int) (se_sub (se_var 2) se_int)))) sa_nil))))))
  sss_nil))))
theorem b_law : SSs ⟨N_law, defScope s_law, fun _ => true, ft⟩ W G wn ((defBody s_law).tail) u_law :=
  (sss_cons (ss_for (si_rng1 (sa_cons se_int sa_nil)) (sg_nm 2) (sss_cons (ss_set 3 false (se_bi .tuple (sa_cons (se_lc (Lc.mk (own := [("k", 4)]) (si_rng1 (sa_cons (se_call 6 2 rfl (sa_cons (se_var 1) (sa_cons se_int sa_nil))) sa_nil)) ⟨rfl, by decide +kernel, by decide +kernel, by decide +kernel, by decide +kernel⟩ (sg_nm 4) st_nil (se_bin .add se_int (se_call 6 2 rfl (sa_cons (se_var 1) (sa_cons se_int sa_nil)))))) sa_nil)))
  (sss_cons (ss_parT2 5 11 true false (sf_lst sa_nil) se_int)
  (sss_cons (ss_for (si_rng1 (sa_cons (se_call 6 2 rfl (sa_cons (se_var 1) (sa_cons se_int sa_nil))) sa_nil)) (sg_nm 4) (sss_cons (ss_set 12 false (se_bin .add (se_var 11) (se_call 6 2 rfl (sa_cons (se_var 1) (sa_cons se_int sa_nil)))))
  (sss_cons (ss_set 11 false (se_bin .add (se_bin .add (se_var 12) se_int) (se_call 6 2 rfl (sa_cons (se_var 1) (sa_cons se_int sa_nil)))))
  (sss_cons (ss_app 5 (se_tup (sa_cons (se_var 12) (sa_cons (se_var 11) sa_nil))))
  sss_nil))))
  (sss_cons (ss_set 5 false (se_bi .tuple (sa_cons (se_var 5) sa_nil)))
  (sss_cons (ss_fz [5] (ss_set 6 false (se_call 10 2 rfl (sa_cons (se_var 3) (sa_cons (se_var 5) sa_nil)))))
  (sss_cons (ss_fz [5] (ss_set 7 false (se_call 2 2 rfl (sa_cons (se_var 3) (sa_cons (se_var 5) sa_nil)))))
  (sss_cons (ss_if (se_not (se_call 7 2 rfl (sa_cons (se_var 7) (sa_cons (se_ite (se_cmp .ne (se_var 6) (se_lst sa_nil)) (se_sub (se_var 6) se_int) se_non) sa_nil)))) (sss_cons (ss_ret se_bl)
  sss_nil) sss_nil)
  (sss_cons (ss_if (se_cmp .isNot (se_var 7) se_non) (sss_cons (ss_if (se_bi .any (sa_cons (se_lc (Lc.mk (own := [("row", 14)]) (si_seq (se_var 6)) ⟨rfl, by decide +kernel, by decide +kernel, by decide +kernel, by decide +kernel⟩ (sg_nm 14) st_nil (se_bi .any (sa_cons (se_lc (Lc.mk (own := [("k", 4)]) (si_rng1 (sa_cons (se_bi .len (sa_cons (se_var 3) sa_nil)) sa_nil)) ⟨rfl, by decide +kernel, by decide +kernel, by decide +kernel, by decide +kernel⟩ (sg_nm 4) st_nil (se_cmp .lt (se_sub (se_var 14) (se_var 4)) (se_sub (se_var 7) (se_var 4))))) sa_nil)))) sa_nil)) (sss_cons (ss_ret se_bl)
  sss_nil) sss_nil)
  (sss_cons (ss_fz [5] (ss_if (se_or (sb_or (se_cmp .ne (se_call 2 2 rfl (sa_cons (se_var 3) (sa_cons (se_bin .add (se_var 5) (se_tup (sa_cons (se_tup (sa_cons (se_bin .add (se_var 11) se_int) (sa_cons (se_bin .add (se_var 11) se_int) sa_nil))) sa_nil))) sa_nil))) (se_var 7)) (sb_or1 (se_cmp .is (se_call 2 2 rfl (sa_cons (se_bi .tuple (sa_cons (se_lc (Lc.mk (own := [("many", 16)]) (si_seq (se_var 3)) ⟨rfl, by decide +kernel, by decide +kernel, by decide +kernel, by decide +kernel⟩ (sg_nm 16) st_nil (se_bi .max (sa_cons se_int (sa_cons (se_bin .sub (se_var 16) se_int) sa_nil))))) sa_nil)) (sa_cons (se_var 5) sa_nil))) se_non)))) (sss_cons (ss_ret se_bl)
  sss_nil) sss_nil))
  sss_nil)) sss_nil)
  (sss_cons (ss_set 8 false (se_ite (se_cmp .ne (se_var 6) (se_lst sa_nil)) (se_sub (se_var 6) (se_call 6 2 rfl (sa_cons (se_var 1) (sa_cons (se_bi .len (sa_cons (se_var 6) sa_nil)) sa_nil)))) (se_bin .mul (se_tup (sa_cons se_int sa_nil)) (se_bi .len (sa_cons (se_var 3) sa_nil)))))
  (sss_cons (ss_fz [5] (ss_set 9 false (se_lst (sa_cons (se_var 7) (sa_cons (se_var 8) (sa_cons (se_rev (se_var 8)) (sa_cons (se_sli (se_var 8) (so_some se_int) so_none) (sa_cons (se_bin .add (se_var 8) (se_tup (sa_cons se_int sa_nil))) (sa_cons (se_var 5) (sa_cons (se_rev (se_var 5)) (sa_cons (se_bin .add (se_var 5) (se_sli (se_var 5) so_none (so_some se_int))) (sa_cons (se_tup (sa_cons (se_tup (sa_cons se_int (sa_cons se_int sa_nil))) sa_nil)) (sa_cons (se_tup (sa_cons (se_tup (sa_cons se_int (sa_cons se_int sa_nil))) sa_nil)) sa_nil)))))))))))))
  (sss_cons (ss_fz [5] (ss_for (si_seq (se_bin .add (se_bin .add (se_bin .add (se_var 9) (se_lst (sa_cons (se_tup (sa_cons (se_tup (sa_cons se_bl (sa_cons se_int sa_nil))) sa_nil)) (sa_cons se_non (sa_cons (se_tup sa_nil) (sa_cons se_int sa_nil)))))) (se_lc (Lc.mk (own := [("k", 4)]) (si_rng1 (sa_cons se_int sa_nil)) ⟨rfl, by decide +kernel, by decide +kernel, by decide +kernel, by decide +kernel⟩ (sg_nm 4) st_nil (se_call 8 2 rfl (sa_cons (se_var 1) (sa_cons (se_var 8) sa_nil)))))) (se_lc (Lc.mk (own := [("k", 4)]) (si_rng1 (sa_cons se_int sa_nil)) ⟨rfl, by decide +kernel, by decide +kernel, by decide +kernel, by decide +kernel⟩ (sg_nm 4) st_nil (se_call 8 2 rfl (sa_cons (se_var 1) (sa_cons (se_var 5) sa_nil))))))) (sg_nm 10) (sss_cons (ss_set 13 false (se_and (sb_and (se_isi .tuple (se_var 10)) (sb_and (se_cmp .eq (se_bi .len (sa_cons (se_var 10) sa_nil)) (se_bi .len (sa_cons (se_var 3) sa_nil))) (sb_and (se_bi .all (sa_cons (se_lc (Lc.mk (own := [("part", 15)]) (si_seq (se_var 10)) ⟨rfl, by decide +kernel, by decide +kernel, by decide +kernel, by decide +kernel⟩ (sg_nm 15) st_nil (se_call 9 3 rfl (sa_cons (se_var 15) (sa_cons se_int (sa_cons se_int sa_nil)))))) sa_nil)) (sb_and1 (se_cmp .in_ (se_var 10) (se_var 6))))))))
  (sss_cons (ss_fz [5] (ss_if (se_not (se_call 7 2 rfl (sa_cons (se_tup (sa_cons (se_call 3 3 rfl (sa_cons (se_var 3) (sa_cons (se_var 5) (sa_cons (se_var 10) sa_nil)))) (sa_cons (se_call 1 1 rfl (sa_cons (se_var 10) sa_nil)) sa_nil))) (sa_cons (se_tup (sa_cons (se_var 13) (sa_cons (se_call 11 1 rfl (sa_cons (se_var 10) sa_nil)) sa_nil))) sa_nil)))) (sss_cons (ss_ret se_bl)
  sss_nil) sss_nil))
  sss_nil))))
  sss_nil))))))))))))
  (sss_cons (ss_ret se_bl)
  sss_nil))
end
section
variable {P : Program} {w : World} {K : PySem.W.Frag} {mg : Str → Option Value} {base : Heap}
theorem sc_box : FnScope ["script"] ["script"] (defScope s__law_box) := ⟨rfl, rfl, rfl, by decide +kernel, rfl, by decide +kernel, by decide +kernel⟩
theorem ok_box {f : Addr} {fd : FuncData} (F : L2.Fun K "_law_box" "_law_box" s__law_box f fd) (z1 : mg "list" = none) (z2 : mg "len" = none) : FnOk P w K mg base CX0 1 f fd ["script"] (spBox K) := by
  refine F.ok sc_box (fun vs H Q E h => ?_) (fun cdv A outer s H vs Q E hr h => ⟨tBox K, ?_, box_run h⟩)
  · obtain ⟨a, ns, rfl, _⟩ := h
    rfl
  · exact pss_one (ps_ret (pe_lst (pa_cons (pe_callTy call_list_of rfl z1 boot_list (pa_cons (pe_slice sl_list (pv 0) po_none (po_some pe_int)) pa_nil)) (pa_cons pe_int (pa_cons (pe_op op_add pe_int (pe_callB call_len_seq rfl z2 boot_len (pa_cons (pv 0) pa_nil))) pa_nil)))))
theorem sc_load : FnScope ["box", "cells", "cell", "size", "first", "second"] ["box"] (defScope s__law_load) := ⟨rfl, rfl, rfl, by decide +kernel, rfl, by decide +kernel, by decide +kernel⟩
theorem ok_load {f : Addr} {fd : FuncData} (ba ca : Addr) (F : L2.Fun K "_law_load" "_law_load" s__law_load f fd) (z1 : mg "int" = none) (z2 : mg "len" = none) : FnOk P w K mg base CX0 1 f fd ["box"] (spLoad ba ca) := by
  refine F.ok sc_load (fun vs H Q E h => ?_) (fun cdv A outer s H vs Q E hr h => ⟨tLoad K, ?_, ?_⟩)
  · obtain ⟨_, _, _, _, _, _, rfl, _⟩ := h
    rfl
  · have bx : ∀ {X : Cx} {j : Int} {k0 : Nat} {p1 p2 p3 : Pos}, X.N[0]? = some ("box" : Str) → Vis X.env.scope "box" → PE X (.Subscript (.Name "box" p1) (.Constant (.int j) k0 p2) p3) (iB X.K j) := fun h1 h2 => pe_ix ix_seq (pe_var h1 h2) pe_int (fun _ _ => rfl)
    exact pss_cons (ps_set (i := 1) sc_load.nd rfl (Or.inl rfl) (bx rfl (Or.inl rfl)))
      (pss_cons (ps_if (pt_cmpR op_gt (pe_callB call_len_seq rfl z2 boot_len (pa_cons (pv 1) pa_nil)) pe_int (nomark _))
        (pss_cons (ps_set (i := 2) sc_load.nd rfl (Or.inl rfl) (pe_callTy call_int1 rfl z1 boot_int (pa_cons (pe_bm PySem.F.plainAttrs_list PySem.F.slot_list_pop PySem.F.type_list_pop mt_popAt (pv 1) (pa_cons pe_int pa_nil)) pa_nil)))
        (pss_cons (ps_set (i := 3) sc_load.nd rfl (Or.inl rfl) (pe_ifExp (pt_cmpR op_ge (pv 2) pe_int (nomark _)) (pe_op op_mul pe_int (pv 2)) (pe_op op_sub (pe_op op_mul (pe_un un_neg pe_int) (pv 2)) pe_int)))
        (pss_cons (ps_if (pt_cmpR op_ge (pv 3) pe_int (nomark _)) (pss_one (ps_ret (pv 3))) pss_nil)
        (pss_one (ps_asg (pe_op op_mod (pe_callTy call_int1 rfl z1 boot_int (pa_cons (pe_op op_add (pe_op op_add (pe_op op_mul (bx rfl (Or.inl rfl)) pe_int) (pe_op op_mul (pv 3) pe_int)) pe_int) pa_nil)) pe_int) (pg_sub (pv 0) pe_int set_list)))))) pss_nil)
      (pss_cons (ps_set (i := 4) sc_load.nd rfl (Or.inl rfl) (pe_op op_mod (pe_callTy call_int1 rfl z1 boot_int (pa_cons (pe_op op_add (pe_op op_mul (bx rfl (Or.inl rfl)) pe_int) pe_int) pa_nil)) pe_int))
      (pss_cons (ps_set (i := 5) sc_load.nd rfl (Or.inl rfl) (pe_op op_mod (pe_callTy call_int1 rfl z1 boot_int (pa_cons (pe_op op_add (pe_op op_mul (pv 4) pe_int) pe_int) pa_nil)) pe_int))
      (pss_cons (ps_asg (pe_op op_mod (pe_callTy call_int1 rfl z1 boot_int (pa_cons (pe_op op_add (pe_op op_mul (pv 5) pe_int) pe_int) pa_nil)) pe_int) (pg_sub (pv 0) pe_int set_list))
      (pss_one (ps_ret (pe_op op_add (pe_op op_add (pe_op op_mul (pv 4) pe_int) (pe_op op_mul (pv 5) pe_int)) (bx rfl (Or.inl rfl)))))))))
  · obtain ⟨W, cells, b1, b2, rfl, rfl, rfl, B, q⟩ := h
    exact load_run B q
theorem sc_draw : FnScope ["box", "many", "digit"] ["box", "many"] (defScope s__law_draw) := ⟨rfl, rfl, rfl, by decide +kernel, rfl, by decide +kernel, by decide +kernel⟩
theorem ok_draw {f fL : Addr} {fd fdL : FuncData} (ba ca : Addr) (F : L2.Fun K "_law_draw" "_law_draw" s__law_draw f fd) (FL : FnOk P w K mg base CX0 1 fL fdL ["box"] (spLoad ba ca)) (mL : mg "_law_load" = some (.ref fL)) (kL : PySem.W.keepIn K (.ref fL) = true) (bL : L2.Binds K fdL ["box"] []) (z1 : mg "int" = none) :
    FnOk P w K mg base CX0 2 f fd ["box", "many"] fun vs H Q E => ∃ (W : Wd) (s : T) (b1 b2 m : Int) (d : Int) (s' : T), W.ba = ba ∧ W.ca = ca ∧ vs = [.ref ba, .int m] ∧ s.2 = [b1, b2] ∧ Tp W s H ∧ drD (s.1, [b1, b2]) m = some (d, s') ∧ (∀ H' c1 c2, s' = (s'.1, [c1, c2]) → Bx W H s'.1 c1 c2 H' → Q (.int d) H') := by
  refine F.ok sc_draw (fun vs H Q E h => ?_) (fun cdv A outer s H vs Q E hr h => ⟨tDraw K (tCall (spLoad ba ca) [] E0 (tCons (tVar 0) tNil)), ?_, ?_⟩)
  · obtain ⟨_, _, _, _, _, _, _, _, _, rfl, _⟩ := h
    rfl
  · have bx : ∀ {X : Cx} {j : Int} {k0 : Nat} {p1 p2 p3 : Pos}, X.N[0]? = some ("box" : Str) → Vis X.env.scope "box" → PE X (.Subscript (.Name "box" p1) (.Constant (.int j) k0 p2) p3) (iB X.K j) := fun h1 h2 => pe_ix ix_seq (pe_var h1 h2) pe_int (fun _ _ => rfl)
    exact pss_cons (ps_if (pt_cmpR op_lt (bx rfl (Or.inl rfl)) (pv 1) (nomark _)) (pss_one (ps_asg (pe_call FL hr rfl mL kL bL .nil pass0 (pa_cons (pv 0) pa_nil)) (pg_sub (pv 0) pe_int set_list))) pss_nil)
      (pss_cons (ps_set (i := 2) sc_draw.nd rfl (Or.inl rfl) (pe_op op_mod (pe_callTy call_int1 rfl z1 boot_int (pa_cons (bx rfl (Or.inl rfl)) pa_nil)) (pv 1)))
      (pss_cons (ps_asg (pe_op op_fdiv (bx rfl (Or.inl rfl)) (pv 1)) (pg_sub (pv 0) pe_int set_list))
      (pss_one (ps_ret (pv 2)))))
  · obtain ⟨W, s0, b1, b2, m, d, s', rfl, rfl, rfl, e1, t, e2, q⟩ := h
    exact draw_run (Bx.of t e1) e2 q
end
section
variable {P : Program} {w : World} {K : PySem.W.Frag} {mg : Str → Option Value} {base : Heap} {wn : Nat}
theorem sc_is_number : FnScope N_is_number ["value", "least", "most"] (defScope s_is_number) := ⟨rfl, rfl, rfl, by decide +kernel, rfl, by decide +kernel, by decide +kernel⟩
theorem sc_are_windows : FnScope N_are_windows ["value"] (defScope s_are_windows) := ⟨rfl, rfl, rfl, by decide +kernel, rfl, by decide +kernel, by decide +kernel⟩
theorem sc_starts_in_windows : FnScope N_starts_in_windows ["lengths", "windows"] (defScope s_starts_in_windows) := ⟨rfl, rfl, rfl, by decide +kernel, rfl, by decide +kernel, by decide +kernel⟩
theorem sc_are_in_windows : FnScope N_are_in_windows ["lengths", "windows", "value"] (defScope s_are_in_windows) := ⟨rfl, rfl, rfl, by decide +kernel, rfl, by decide +kernel, by decide +kernel⟩
theorem sc__law_same : FnScope N__law_same ["a", "b"] (defScope s__law_same) := ⟨rfl, rfl, rfl, by decide +kernel, rfl, by decide +kernel, by decide +kernel⟩
theorem sc__law_bent : FnScope N__law_bent ["box", "value"] (defScope s__law_bent) := ⟨rfl, rfl, rfl, by decide +kernel, rfl, by decide +kernel, by decide +kernel⟩
theorem sc__law_whole : FnScope N__law_whole ["value", "low", "high"] (defScope s__law_whole) := ⟨rfl, rfl, rfl, by decide +kernel, rfl, by decide +kernel, by decide +kernel⟩
theorem sc__law_all : FnScope N__law_all ["lengths", "windows"] (defScope s__law_all) := ⟨rfl, rfl, rfl, by decide +kernel, rfl, by decide +kernel, by decide +kernel⟩
theorem sc__law_are_windows : FnScope N__law_are_windows ["value"] (defScope s__law_are_windows) := ⟨rfl, rfl, rfl, by decide +kernel, rfl, by decide +kernel, by decide +kernel⟩
theorem sc_law : FnScope N_law ["script"] (defScope s_law) := ⟨rfl, rfl, rfl, by decide +kernel, rfl, by decide +kernel, by decide +kernel⟩
theorem i_is_number {h : Heap} (X : K.In h) (G : h.Ns mainGlobals mg) (hbt : ∀ x ∈ btN, mg x = none) (d : Dat K "is_number" s_is_number) : Inf P w K mg base (tb wn) "is_number" 0 3 :=
  inf_of X G d rfl sc_is_number (fun _ _ => b_is_number) rfl rfl hbt fun _ _ _ _ _ _ us hl => match us, hl with | [_, _, _], _ => rfl
theorem i_are_windows {h : Heap} (X : K.In h) (G : h.Ns mainGlobals mg) (hbt : ∀ x ∈ btN, mg x = none) (d : Dat K "are_windows" s_are_windows) : Inf P w K mg base (tb wn) "are_windows" 1 1 :=
  inf_of X G d rfl sc_are_windows (fun _ _ => b_are_windows) rfl rfl hbt fun _ _ _ _ _ _ us hl => match us, hl with | [_], _ => rfl
theorem i_starts_in_windows {h : Heap} (X : K.In h) (G : h.Ns mainGlobals mg) (hbt : ∀ x ∈ btN, mg x = none) (d : Dat K "starts_in_windows" s_starts_in_windows) : Inf P w K mg base (tb wn) "starts_in_windows" 2 2 :=
  inf_of X G d rfl sc_starts_in_windows (fun _ _ => b_starts_in_windows) rfl rfl hbt fun _ _ _ _ _ _ us hl => match us, hl with | [_, _], _ => rfl
theorem i_are_in_windows {h : Heap} (X : K.In h) (G : h.Ns mainGlobals mg) (hbt : ∀ x ∈ btN, mg x = none) (d : Dat K "are_in_windows" s_are_in_windows) : Inf P w K mg base (tb wn) "are_in_windows" 3 3 :=
  inf_of X G d rfl sc_are_in_windows (fun _ _ => b_are_in_windows) rfl rfl hbt fun _ _ _ _ _ _ us hl => match us, hl with | [_, _, _], _ => rfl
theorem i__law_same {h : Heap} (X : K.In h) (G : h.Ns mainGlobals mg) (hbt : ∀ x ∈ btN, mg x = none) (d : Dat K "_law_same" s__law_same) : Inf P w K mg base (tb wn) "_law_same" 7 2 :=
  inf_of X G d rfl sc__law_same (fun _ _ => b__law_same) rfl rfl hbt fun _ _ _ _ _ _ us hl => match us, hl with | [_, _], _ => rfl
theorem i__law_bent {h : Heap} (X : K.In h) (G : h.Ns mainGlobals mg) (hbt : ∀ x ∈ btN, mg x = none) (d : Dat K "_law_bent" s__law_bent) : Inf P w K mg base (tb wn) "_law_bent" 8 2 :=
  inf_of X G d rfl sc__law_bent (fun _ _ => b__law_bent) rfl rfl hbt fun _ _ _ _ _ _ us hl => match us, hl with | [_, _], _ => rfl
theorem i__law_whole {h : Heap} (X : K.In h) (G : h.Ns mainGlobals mg) (hbt : ∀ x ∈ btN, mg x = none) (d : Dat K "_law_whole" s__law_whole) : Inf P w K mg base (tb wn) "_law_whole" 9 3 :=
  inf_of X G d rfl sc__law_whole (fun _ _ => b__law_whole) rfl rfl hbt fun _ _ _ _ _ _ us hl => match us, hl with | [_, _, _], _ => rfl
theorem i__law_all {h : Heap} (X : K.In h) (G : h.Ns mainGlobals mg) (hbt : ∀ x ∈ btN, mg x = none) (d : Dat K "_law_all" s__law_all) : Inf P w K mg base (tb wn) "_law_all" 10 2 :=
  inf_of X G d rfl sc__law_all (fun _ _ => b__law_all) rfl rfl hbt fun _ _ _ _ _ _ us hl => match us, hl with | [_, _], _ => rfl
theorem i__law_are_windows {h : Heap} (X : K.In h) (G : h.Ns mainGlobals mg) (hbt : ∀ x ∈ btN, mg x = none) (d : Dat K "_law_are_windows" s__law_are_windows) : Inf P w K mg base (tb wn) "_law_are_windows" 11 1 :=
  inf_of X G d rfl sc__law_are_windows (fun _ _ => b__law_are_windows) rfl rfl hbt fun _ _ _ _ _ _ us hl => match us, hl with | [_], _ => rfl
theorem i__law_draw {h : Heap} (X : K.In h) (G : h.Ns mainGlobals mg) (hbt : ∀ x ∈ btN, mg x = none) (d : Dat K "_law_draw" s__law_draw) (e : Dat K "_law_load" s__law_load) : Inf P w K mg base (tb wn) "_law_draw" 6 2 := by
  obtain ⟨f, fd, a, F, k⟩ := d
  obtain ⟨fL, fdL, aL, FL, kL⟩ := e
  have z1 := hbt "int" (by decide +kernel)
  have z2 := hbt "len" (by decide +kernel)
  exact ⟨f, fd, ["box", "many"], PySem.W.mg_of X G a, k, F.binds fun _ _ _ _ _ _ us hl => match us, hl with | [_, _], _ => rfl, fun n _ ba ca =>
    draw_ok rfl ba ca ((ok_draw ba ca F (ok_load ba ca FL z1 z2) (PySem.W.mg_of X G aL) kL (FL.binds fun _ _ _ _ _ _ us hl => match us, hl with | [_], _ => rfl) z1).mono (by decide)) n⟩
theorem infs {h : Heap} (X : K.In h) (G : h.Ns mainGlobals mg) (hbt : ∀ x ∈ btN, mg x = none) (d_is_number : Dat K "is_number" s_is_number) (d_are_windows : Dat K "are_windows" s_are_windows) (d_starts_in_windows : Dat K "starts_in_windows" s_starts_in_windows) (d_are_in_windows : Dat K "are_in_windows" s_are_in_windows) (d__law_box : Dat K "_law_box" s__law_box) (d__law_load : Dat K "_law_load" s__law_load) (d__law_draw : Dat K "_law_draw" s__law_draw) (d__law_same : Dat K "_law_same" s__law_same) (d__law_bent : Dat K "_law_bent" s__law_bent) (d__law_whole : Dat K "_law_whole" s__law_whole) (d__law_all : Dat K "_law_all" s__law_all) (d__law_are_windows : Dat K "_law_are_windows" s__law_are_windows) (d_law : Dat K "law" s_law) : ∀ x i n, ft x = some (i, n) → Inf P w K mg base (tb wn) x i n := by
  refine ft_all (p := fun x i n => Inf P w K mg base (tb wn) x i n) ?_
  simp only [List.forall_mem_cons]
  exact ⟨i_is_number X G hbt d_is_number, i_are_windows X G hbt d_are_windows, i_starts_in_windows X G hbt d_starts_in_windows, i_are_in_windows X G hbt d_are_in_windows, i__law_draw X G hbt d__law_draw d__law_load, i__law_same X G hbt d__law_same, i__law_bent X G hbt d__law_bent, i__law_whole X G hbt d__law_whole, i__law_all X G hbt d__law_all, i__law_are_windows X G hbt d__law_are_windows, fun _ h => nomatch h⟩
theorem law_fn {fa : Addr} {h : Heap} (X : K.In h) (G : h.Ns mainGlobals mg) (hfa : mg "law" = some (.ref fa)) (hbt : ∀ x ∈ btN, mg x = none) (d_is_number : Dat K "is_number" s_is_number) (d_are_windows : Dat K "are_windows" s_are_windows) (d_starts_in_windows : Dat K "starts_in_windows" s_starts_in_windows) (d_are_in_windows : Dat K "are_in_windows" s_are_in_windows) (d__law_box : Dat K "_law_box" s__law_box) (d__law_load : Dat K "_law_load" s__law_load) (d__law_draw : Dat K "_law_draw" s__law_draw) (d__law_same : Dat K "_law_same" s__law_same) (d__law_bent : Dat K "_law_bent" s__law_bent) (d__law_whole : Dat K "_law_whole" s__law_whole) (d__law_all : Dat K "_law_all" s__law_all) (d__law_are_windows : Dat K "_law_are_windows" s__law_are_windows) (d_law : Dat K "law" s_law) (lv wn : Nat)
    (law : ∀ (cells : List Int) (b : Int), cells.length ≤ 63 → ∃ s', out (exs ((tb wn).at lv) wn u_law e_law (cells, [0, b])) = some (.bl true, s')) :
    ∃ fd : FuncData, (∀ (s : Shared) (v : Value), BindsTo s fd ⟨[v], []⟩ [("script", v)]) ∧ ∀ base : Heap, K.In base → base.Ns mainGlobals mg → FnOk P w K mg base CX0 (lv + 3) fa fd ["script"] (Ip.spLaw K) := by
  obtain ⟨fL, fdL, aL, FL, kL⟩ := id d_law
  obtain ⟨fB, fdB, aB, FB, kB⟩ := id d__law_box
  have e := hfa.symm.trans (PySem.W.mg_of X G aL)
  cases e
  have bl := FL.binds (ps := ["script"]) fun _ _ _ _ _ _ us hl => match us, hl with | [_], _ => rfl
  refine ⟨fdL, ?_, fun base _ _ => ?_⟩
  · obtain ⟨oc, od, kV, doc, pm, an, cdv, ct, osl, e1, _⟩ := FL.ex
    rw [e1]
    exact fun s v => .of_eq rfl
  · exact law_ok (B := tb wn) (ib := 1) FL sc_law rfl rfl (by first | exact Or.inl rfl | exact Or.inr rfl) (by first | exact Or.inl rfl | exact Or.inr rfl) rfl rfl (fun _ _ => b_law) hbt (all_ok (infs X G hbt d_is_number d_are_windows d_starts_in_windows d_are_in_windows d__law_box d__law_load d__law_draw d__law_same d__law_bent d__law_whole d__law_all d__law_are_windows d_law) lv) (ok_box FB (hbt "list" (by decide +kernel)) (hbt "len" (by decide +kernel))) (PySem.W.mg_of X G aB) kB
      (FB.binds fun _ _ _ _ _ _ us hl => match us, hl with | [_], _ => rfl) law
theorem hbt_of {h : Heap} (X : K.In h) (G : h.Ns mainGlobals mg) (z_len : PySem.W.nsIn K mainGlobals "len" = some none) (z_int : PySem.W.nsIn K mainGlobals "int" = some none) (z_str : PySem.W.nsIn K mainGlobals "str" = some none) (z_all : PySem.W.nsIn K mainGlobals "all" = some none) (z_any : PySem.W.nsIn K mainGlobals "any" = some none) (z_list : PySem.W.nsIn K mainGlobals "list" = some none) (z_tuple : PySem.W.nsIn K mainGlobals "tuple" = some none) (z_sorted : PySem.W.nsIn K mainGlobals "sorted" = some none) (z_sum : PySem.W.nsIn K mainGlobals "sum" = some none) (z_max : PySem.W.nsIn K mainGlobals "max" = some none) (z_min : PySem.W.nsIn K mainGlobals "min" = some none) (z_isinstance : PySem.W.nsIn K mainGlobals "isinstance" = some none) (z_bool : PySem.W.nsIn K mainGlobals "bool" = some none) (z_range : PySem.W.nsIn K mainGlobals "range" = some none) (z_zip : PySem.W.nsIn K mainGlobals "zip" = some none) (z_enumerate : PySem.W.nsIn K mainGlobals "enumerate" = some none) (z_dict : PySem.W.nsIn K mainGlobals "dict" = some none) (z_set : PySem.W.nsIn K mainGlobals "set" = some none) : ∀ x ∈ btN, mg x = none := by
  simp only [btN, List.forall_mem_cons]
  exact ⟨PySem.W.mg_none_of X G z_len, PySem.W.mg_none_of X G z_int, PySem.W.mg_none_of X G z_str, PySem.W.mg_none_of X G z_all, PySem.W.mg_none_of X G z_any, PySem.W.mg_none_of X G z_list, PySem.W.mg_none_of X G z_tuple, PySem.W.mg_none_of X G z_sorted, PySem.W.mg_none_of X G z_sum, PySem.W.mg_none_of X G z_max, PySem.W.mg_none_of X G z_min, PySem.W.mg_none_of X G z_isinstance, PySem.W.mg_none_of X G z_bool, PySem.W.mg_none_of X G z_range, PySem.W.mg_none_of X G z_zip, PySem.W.mg_none_of X G z_enumerate, PySem.W.mg_none_of X G z_dict, PySem.W.mg_none_of X G z_set, fun _ h => nomatch h⟩
end
end Law

namespace Law
open Ip
def isNum (v : D) (lo hi : Int) : Bool := match v with
  | .int i => decide (lo ≤ i) && decide (i ≤ hi)
  | _ => false
abbrev G (wn k : Nat) : Gl := (tb wn).at k
theorem run_num {wn k : Nat} {v : D} {lo hi : Int} {s : T} (hv : pl 60 v = true) : (ev (G wn k) (.and_ (.isi .int (.loc 0)) (.and_ (.not_ (.isi .bool (.loc 0))) (.chain .le .le (.loc 1) (.loc 0) (.loc 2)))) [some (false, v), some (false, .int lo), some (false, .int hi)]).v s = some (.bl (isNum v lo hi), s) := by
  cases v <;> simp [ev_loc, ev_con, ev_bin, ev_neg, ev_not, ev_and, ev_or, ev_ite, ev_cmp, ev_chain, ev_tup, ev_lst, ev_call, ev_bi, ev_isi, ev_sub, ev_sli, ev_rev, evs_nil, evs_cons, evos_nil, evos_cons, evts_nil, evts_cons, evo_none, evo_some, evV, evL, mk, intO, truD, cmp_le_int, cmp_ge_int, cmp_lt_int, cmp_gt_int, cmp_eq_int, cmp_ne_int, add_int, sub_int, max_int, isiD, isiB, hv, isNum]
  split <;> simp [*]
theorem run_is_number {wn k : Nat} {v : D} {lo hi : Int} {s : T} (hv : pl 60 v = true) : (G wn (k + 1)).cl 0 [v, .int lo, .int hi] s = some (.bl (isNum v lo hi), s) := by
  show out (exs (G wn k) wn u_is_number [some (false, v), some (false, .int lo), some (false, .int hi)] s) = _
  rw [u_is_number, out_ret, run_num hv]
theorem run_whole {wn k : Nat} {v : D} {lo hi : Int} {s : T} (hv : pl 60 v = true) : (G wn (k + 1)).cl 9 [v, .int lo, .int hi] s = some (.bl (isNum v lo hi), s) := by
  show out (exs (G wn k) wn u__law_whole [some (false, v), some (false, .int lo), some (false, .int hi)] s) = _
  rw [u__law_whole, out_ret, run_num hv]

/-! ### are_windows -/
def dP (w : Int × Int) : D := .tup [.int w.1, .int w.2]
def dW (ws : List (Int × Int)) : D := .tup (ws.map dP)
def dI (ls : List Int) : D := .tup (ls.map .int)
def Chn : List (Int × Int) → Prop
  | a :: b :: r => a.2 ≤ b.1 ∧ Chn (b :: r)
  | _ => True
def WinOk (v : D) : Prop := ∃ ws, v = dW ws ∧ (∀ w ∈ ws, 0 ≤ w.1 ∧ w.1 < w.2 ∧ w.2 ≤ 200) ∧ Chn ws
def isP2 (x : D) : Bool := match x with
  | .tup ys => (ys.length : Int) == 2
  | _ => false
structure Sane (v : D) : Prop where
  p : pl 20 v = true
  z : ∀ xs, v = .tup xs → xs.length ≤ 1000
theorem Sane.pl {v : D} (h : Sane v) : pl 60 v = true := pl_mono 20 60 v (by decide) h.p
theorem Sane.el {xs : List D} (h : Sane (.tup xs)) {x : D} (hx : x ∈ xs) : Ip.pl 60 x = true := by
  have := h.p
  simp only [Ip.pl, List.all_eq_true] at this
  exact pl_mono 19 60 x (by decide) (this x hx)

def isW (x : D) : Bool := match x with
  | .tup [a, b] => match a with
    | .int i => isNum (.int i) 0 200 && isNum b (i + 1) 200
    | _ => false
  | _ => false
theorem p2_iff {x : D} : isP2 x = true ↔ ∃ a b, x = .tup [a, b] := by
  cases x with
  | tup ys =>
    match ys with
    | [] => simp [isP2]
    | [_] => simp [isP2]
    | [a, b] => simp [isP2]
    | _ :: _ :: _ :: r => simp [isP2]; omega
  | _ => simp [isP2]
theorem isW_iff {x : D} : isW x = true ↔ ∃ w : Int × Int, x = dP w ∧ 0 ≤ w.1 ∧ w.1 < w.2 ∧ w.2 ≤ 200 := by
  constructor
  · intro h
    unfold isW at h
    split at h
    · rename_i a b
      cases a with
      | int i =>
        cases b with
        | int j =>
          simp [isNum] at h
          exact ⟨(i, j), rfl, by omega, by simp; omega, by simp; omega⟩
        | _ => simp [isNum] at h
      | _ => simp at h
    · cases h
  · rintro ⟨⟨i, j⟩, rfl, h1, h2, h3⟩
    simp at h1 h2 h3
    simp [isW, dP, isNum]
    omega
theorem all_W {xs : List D} (h : xs.all isW = true) : ∃ ws : List (Int × Int), xs = ws.map dP ∧ ∀ w ∈ ws, 0 ≤ w.1 ∧ w.1 < w.2 ∧ w.2 ≤ 200 := by
  induction xs with
  | nil => exact ⟨[], rfl, by simp⟩
  | cons x xs ih =>
    simp only [List.all_cons, Bool.and_eq_true] at h
    obtain ⟨ws, rfl, hw⟩ := ih h.2
    obtain ⟨w, rfl, h1⟩ := isW_iff.mp h.1
    exact ⟨w :: ws, rfl, fun u hu => by
      rcases List.mem_cons.mp hu with rfl | hu
      · exact h1
      · exact hw u hu⟩
theorem W_all {ws : List (Int × Int)} (h : ∀ w ∈ ws, 0 ≤ w.1 ∧ w.1 < w.2 ∧ w.2 ≤ 200) : (ws.map dP).all isW = true := by
  rw [List.all_eq_true]
  intro x hx
  obtain ⟨w, hw, rfl⟩ := List.mem_map.mp hx
  exact isW_iff.mpr ⟨w, rfl, h w hw⟩
theorem chn_iff : ∀ {ws : List (Int × Int)}, Chn ws ↔ ∀ i : Nat, (h : i + 1 < ws.length) → (ws[i]).2 ≤ (ws[i + 1]).1
  | [] => by simp [Chn]
  | [_] => by simp [Chn]
  | a :: b :: r => by
    rw [Chn, chn_iff (ws := b :: r)]
    constructor
    · rintro ⟨h1, h2⟩ i hi
      cases i with
      | zero => exact h1
      | succ i => exact h2 i (by simpa using hi)
    · intro h
      exact ⟨h 0 (by simp), fun i hi => h (i + 1) (by simpa using hi)⟩
theorem dP_inj {v w : Int × Int} (h : dP v = dP w) : v = w := by
  unfold dP at h
  simp at h
  exact Prod.ext h.1 h.2
theorem dW_inj {v w : List (Int × Int)} (h : dW v = dW w) : v = w := by
  unfold dW at h
  simp at h
  induction v generalizing w with
  | nil => cases w <;> simp_all
  | cons a v ih =>
    cases w with
    | nil => simp at h
    | cons b w =>
      simp at h
      rw [dP_inj h.1, ih h.2]
theorem winOk_iff {xs : List D} : WinOk (.tup xs) ↔ xs.all isW = true ∧ ∀ ws, xs = ws.map dP → Chn ws := by
  constructor
  · rintro ⟨ws, e, h1, h2⟩
    unfold dW at e
    cases e
    refine ⟨W_all h1, fun v hv => ?_⟩
    rw [dW_inj (v := v) (w := ws) (by unfold dW; rw [hv])]
    exact h2
  · rintro ⟨h1, h2⟩
    obtain ⟨ws, rfl, h3⟩ := all_W h1
    exact ⟨ws, rfl, h3, h2 ws rfl⟩
theorem run_are_windows {wn k : Nat} {v : D} {s : T} (hv : Sane v) : ∃ b, (G wn (k + 2)).cl 1 [v] s = some (.bl b, s) ∧ (b = true ↔ WinOk v) := by
  show ∃ b, out (exs (G wn (k + 1)) wn u_are_windows [some (false, v), none, none, none, none] s) = _ ∧ _
  rw [u_are_windows]
  have h1 := hv.pl
  by_cases ht : ∃ xs, v = .tup xs
  · obtain ⟨xs, rfl⟩ := ht
    have c1 := pv_or (pv_not (pv_isi (G := G wn (k + 1)) (t := .tuple) (a := .loc 0) (r := [some (false, D.tup xs), none, none, none, none]) (po_loc rfl) h1).toPo rfl) fun _ => pv_not (pv_all (own := [2]) (t := .nm 2) (k := .seq) (es := [.loc 0]) (e := .and_ (.isi .tuple (.loc 2)) (.cmp .eq (.bi .len [(.loc 2)]) (.con (.int 2)))) xs isP2 (pos_cons (po_loc rfl) pos_nil) rfl (fun x hx => ⟨_, rfl, by
      have hp := hv.el hx
      cases x with
      | tup ys =>
        show Pv _ _ _ (.bl (isiB .tuple (.tup ys) && ((ys.length : Int) == 2)))
        repeat' (first
    | exact pv_con
    | exact pv_loc rfl
    | exact po_loc rfl
    | exact pos_nil
    | exact pvs_nil
    | exact pe_none
    | apply pos_cons
    | apply pvs_cons
    | apply pv_all
    | apply pv_any
    | apply pv_bin
    | apply pv_neg
    | apply pv_not
    | apply pv_and
    | apply pv_or
    | apply pv_cmp
    | apply pv_chain
    | apply pv_tup
    | apply pv_lst
    | apply pv_isi
    | apply pv_sub
    | apply pe_some
    | apply pv_sli
    | apply pv_rev
    | apply pv_bi
    | apply pv_call
    | apply Pv.toPo
    | (intro (hyp : _ = _))
    | exact cmp_le_int _ _
    | exact cmp_ge_int _ _
    | exact cmp_lt_int _ _
    | exact cmp_gt_int _ _
    | exact cmp_eq_int _ _
    | exact cmp_ne_int _ _
    | exact add_int _ _
    | exact sub_int _ _
    | exact max_int _ _
    | assumption
    | (with_reducible rfl)
    | rfl)
      | _ => exact pv_and0 (pv_isi (po_loc rfl) hp)⟩)).toPo rfl
    rw [c1.toPo.ife rfl]
    have e0 : (!isiB .tuple (.tup xs)) = false := rfl
    rw [e0, Bool.false_or]
    cases hp2 : xs.all isP2 with
    | false =>
      refine ⟨false, by rw [Bool.not_false, if_pos rfl, ev_con]; rfl, ?_⟩
      rw [winOk_iff]
      simp only [Bool.false_eq_true, false_iff]
      rintro ⟨h, _⟩
      obtain ⟨ws, rfl, _⟩ := all_W h
      rw [List.all_eq_false] at hp2
      obtain ⟨x, hx, hn⟩ := hp2
      obtain ⟨w, _, rfl⟩ := List.mem_map.mp hx
      exact hn rfl
    | true =>
      rw [Bool.not_true, if_neg (by decide)]
      have c2 := pv_not (pv_all (G := G wn (k + 1)) (r := [some (false, D.tup xs), none, none, none, none]) (own := [3, 4]) (t := .tp [.nm 3, .nm 4]) (k := .seq) (es := [.loc 0]) (e := .and_ (.call 0 [(.loc 3), (.con (.int 0)), (.con (.int 200))]) (.call 0 [(.loc 4), (.bin .add (.loc 3) (.con (.int 1))), (.con (.int 200))])) xs isW (pos_cons (po_loc rfl) pos_nil) rfl (fun x hx => by
        have hp := hv.el hx
        rw [List.all_eq_true] at hp2
        obtain ⟨a, b, rfl⟩ := p2_iff.mp (hp2 x hx)
        have ha : pl 60 a = true := by
          simp [Ip.pl] at hp
          exact pl_mono 59 60 a (by decide) hp.1
        have hb : pl 60 b = true := by
          simp [Ip.pl] at hp
          exact pl_mono 59 60 b (by decide) hp.2
        refine ⟨_, rfl, ?_⟩
        have p1 : Pv (G wn (k + 1)) (.call 0 [(.loc 3), (.con (.int 0)), (.con (.int 200))]) [some (false, D.tup xs), none, none, some (false, a), some (false, b)] (.bl (isNum a 0 200)) := pv_call (pvs_cons (pv_loc rfl) (pvs_cons pv_con (pvs_cons pv_con pvs_nil))) fun s => run_is_number ha
        cases a with
        | int i =>
          have p2 : Pv (G wn (k + 1)) (.call 0 [(.loc 4), (.bin .add (.loc 3) (.con (.int 1))), (.con (.int 200))]) [some (false, D.tup xs), none, none, some (false, .int i), some (false, b)] (.bl (isNum b (i + 1) 200)) := pv_call (pvs_cons (pv_loc rfl) (pvs_cons (pv_bin (po_loc rfl) pv_con.toPo rfl) (pvs_cons pv_con pvs_nil))) fun s => run_is_number hb
          have := pv_and p1 fun _ => p2
          exact this
        | _ => exact pv_and0 p1)).toPo rfl
      rw [c2.toPo.ife rfl]
      cases hw : xs.all isW with
      | false =>
        refine ⟨false, by rw [Bool.not_false, if_pos rfl, ev_con]; rfl, ?_⟩
        rw [winOk_iff, hw]
        simp
      | true =>
        rw [Bool.not_true, if_neg (by decide)]
        obtain ⟨ws, rfl, hws⟩ := all_W hw
        have hz := hv.z _ rfl
        rw [List.length_map] at hz
        have c3 := pv_all (G := G wn (k + 1)) (r := [some (false, D.tup (ws.map dP)), none, none, none, none]) (own := [1]) (t := .nm 1) (k := .rng) (es := [(.bin .sub (.bi .len [(.loc 0)]) (.con (.int 1)))]) (e := .cmp .le (.sub (.sub (.loc 0) (.loc 1)) (.con (.int 1))) (.sub (.sub (.loc 0) (.bin .add (.loc 1) (.con (.int 1)))) (.con (.int 0)))) (rngL 0 (ws.length - 1)) (fun x => match x with
            | .int i => decide ((ws.getD i.toNat (0, 0)).2 ≤ (ws.getD (i.toNat + 1) (0, 0)).1)
            | _ => false) (pos_cons (pv_bin (pv_bi (d := .int (ws.length : Int)) (pos_cons (po_loc rfl) pos_nil) (by show some (D.int ((ws.map dP).length : Int)) = _; rw [List.length_map])).toPo pv_con.toPo rfl).toPo pos_nil)
          (by
            show (if (ws.length : Int) - 1 ≤ (szL : Int) ∧ -1000000 ≤ (ws.length : Int) - 1 then some (rngL 0 ((ws.length : Int) - 1).toNat) else none) = _
            have : szL = 16777216 := rfl
            rw [if_pos ⟨by omega, by omega⟩]
            congr 2
            omega)
          (fun x hx => by
            obtain ⟨i, hi, rfl⟩ := mem_rngL hx
            refine ⟨_, rfl, ?_⟩
            have g1 : (ws.map dP)[i]? = some (dP (ws.getD i (0, 0))) := by
              rw [List.getElem?_map, List.getD_eq_getElem?_getD, List.getElem?_eq_getElem (by omega)]
              rfl
            have g2 : (ws.map dP)[i + 1]? = some (dP (ws.getD (i + 1) (0, 0))) := by
              rw [List.getElem?_map, List.getD_eq_getElem?_getD, List.getElem?_eq_getElem (by omega)]
              rfl
            exact pv_cmp (pv_sub (pv_sub (po_loc rfl) (po_loc rfl) (sub_tup g1)).toPo pv_con.toPo rfl).toPo (pv_sub (pv_sub (po_loc rfl) (pv_bin (po_loc rfl) pv_con.toPo rfl).toPo (sub_tup g2)).toPo pv_con.toPo rfl).toPo (cmp_le_int _ _))
        refine ⟨_, c3.ret, ?_⟩
        rw [all_rngL, winOk_iff, hw]
        constructor
        · intro h
          refine ⟨rfl, fun us hu => ?_⟩
          have := dW_inj (v := ws) (w := us) (by unfold dW; rw [hu])
          subst this
          rw [chn_iff]
          intro i hi
          have := h i (by omega)
          simp [List.getD_eq_getElem?_getD, List.getElem?_eq_getElem (show i < ws.length by omega), List.getElem?_eq_getElem hi] at this
          exact this
        · rintro ⟨_, h⟩ i hi
          have h := chn_iff.mp (h ws rfl) i (by omega)
          simp [List.getD_eq_getElem?_getD, List.getElem?_eq_getElem (show i < ws.length by omega), List.getElem?_eq_getElem (show i + 1 < ws.length by omega)]
          exact h
  · refine ⟨false, ?_, ?_⟩
    · have c0 : Pv (G wn (k + 1)) (.not_ (.isi .tuple (.loc 0))) [some (false, v), none, none, none, none] (.bl true) := by
        have := pv_not (pv_isi (G := G wn (k + 1)) (t := .tuple) (a := .loc 0) (r := [some (false, v), none, none, none, none]) (po_loc rfl) h1).toPo rfl
        have e : (!isiB .tuple v) = true := by cases v <;> first | rfl | exact absurd ⟨_, rfl⟩ ht
        rw [← e]
        exact this
      rw [(pv_or1 c0).toPo.ife rfl, if_pos rfl, ev_con]
      rfl
    · simp only [Bool.false_eq_true, false_iff]
      rintro ⟨ws, rfl, _⟩
      exact ht ⟨_, rfl⟩

/-! ### _law_are_windows -/
def isV (x : D) : Bool := match x with
  | .tup ys => ((ys.length : Int) == 2) && ys.all fun a => isNum a 0 200
  | _ => false
def fl (ws : List (Int × Int)) : List Int := ws.flatMap fun w => [w.1, w.2]
theorem fl_cons (w : Int × Int) (ws : List (Int × Int)) : fl (w :: ws) = w.1 :: w.2 :: fl ws := rfl
theorem isNum_iff {a : D} {lo hi : Int} : isNum a lo hi = true ↔ ∃ i, a = .int i ∧ lo ≤ i ∧ i ≤ hi := by
  cases a <;> simp [isNum]
theorem all_V {xs : List D} (h : xs.all isV = true) : ∃ ws : List (Int × Int), xs = ws.map dP ∧ ∀ w ∈ ws, 0 ≤ w.1 ∧ w.1 ≤ 200 ∧ 0 ≤ w.2 ∧ w.2 ≤ 200 := by
  induction xs with
  | nil => exact ⟨[], rfl, by simp⟩
  | cons x xs ih =>
    simp only [List.all_cons, Bool.and_eq_true] at h
    obtain ⟨ws, rfl, hw⟩ := ih h.2
    have h1 := h.1
    cases x with
    | tup ys =>
      simp only [isV, Bool.and_eq_true, beq_iff_eq] at h1
      match ys, h1 with
      | [a, b], h1 =>
        simp only [List.all_cons, List.all_nil, Bool.and_eq_true, Bool.and_true] at h1
        obtain ⟨i, rfl, h2, h3⟩ := isNum_iff.mp h1.2.1
        obtain ⟨j, rfl, h4, h5⟩ := isNum_iff.mp h1.2.2
        exact ⟨(i, j) :: ws, rfl, fun u hu => by
          rcases List.mem_cons.mp hu with rfl | hu
          · exact ⟨h2, h3, h4, h5⟩
          · exact hw u hu⟩
      | [], h1 => simp at h1
      | [_], h1 => simp at h1
      | _ :: _ :: _ :: r, h1 => exfalso; have := h1.1; simp at this; omega
    | _ => simp [isV] at h1
theorem isV_of {w : Int × Int} (h : 0 ≤ w.1 ∧ w.1 < w.2 ∧ w.2 ≤ 200) : isV (dP w) = true := by
  simp [isV, dP, isNum]
  omega
theorem law_spots {wn k : Nat} {V : Option (Bool × D)} {s : T} : ∀ (ws : List (Int × Int)) (acc : List D) (x : Option (Bool × D)), acc.length + 2 * ws.length ≤ 4000 →
    ∃ x', forF (foT (G wn k) wn (.nm 2) [(.ext 1 (.loc 2))]) (ws.map dP) [V, some (true, .lst acc), x, none] s = some (.nx [V, some (true, .lst (acc ++ (fl ws).map .int)), x', none] s)
  | [], acc, x, _ => ⟨x, by simp [forF, fl]⟩
  | w :: ws, acc, x, h => by
    rw [List.length_cons] at h
    obtain ⟨x', e⟩ := law_spots (wn := wn) (k := k) (V := V) (s := s) ws (acc ++ [.int w.1, .int w.2]) (some (false, dP w)) (by simp; omega)
    refine ⟨x', ?_⟩
    have hz : acc.length + 2 ≤ szL := by
      have : szL = 16777216 := rfl
      omega
    rw [List.map_cons, forF]
    have t1 : foT (G wn k) wn (.nm 2) [(.ext 1 (.loc 2))] (dP w) [V, some (true, .lst acc), x, none] s = some (.nx [V, some (true, .lst (acc ++ [.int w.1, .int w.2])), some (false, dP w), none] s) := by
      simp [foT, bindT, exs_nil, exs_cons, ex_fz, ex_set, ex_par, ex_tgt, ex_app, ex_ext, ex_exp, ex_ret, ex_ife, ex_brk, ex_cnt, ex_pas, setO, setOs, seqR, ownL, frz, isMut, bindAll, bindT, bindTs, out, ev_loc, ev_con, ev_bin, ev_neg, ev_not, ev_and, ev_or, ev_ite, ev_cmp, ev_chain, ev_tup, ev_lst, ev_call, ev_bi, ev_isi, ev_sub, ev_sli, ev_rev, evs_nil, evs_cons, evos_nil, evos_cons, evts_nil, evts_cons, evo_none, evo_some, evV, evL, mk, intO, truD, dP, hz]
    rw [t1, Option.bind_some]
    show forF _ (ws.map dP) _ _ = _
    rw [e, fl_cons]
    simp
theorem mem_fl {ws : List (Int × Int)} {y : Int} : y ∈ fl ws ↔ ∃ w ∈ ws, y = w.1 ∨ y = w.2 := by
  unfold fl
  simp
theorem sorted_iff {ws : List (Int × Int)} : ((fl ws).Pairwise (· ≤ ·) ∧ ∀ w ∈ ws, w.1 < w.2) ↔ (Chn ws ∧ ∀ w ∈ ws, w.1 < w.2) := by
  induction ws with
  | nil => simp [fl, Chn]
  | cons w ws ih =>
    have key : (∀ u ∈ ws, u.1 < u.2) → ((fl ws).Pairwise (· ≤ ·) ↔ Chn ws) := fun h => by
      constructor
      · intro p; exact (ih.mp ⟨p, h⟩).1
      · intro p; exact (ih.mpr ⟨p, h⟩).1
    constructor
    · rintro ⟨h1, h2⟩
      rw [fl_cons, List.pairwise_cons, List.pairwise_cons] at h1
      refine ⟨?_, h2⟩
      have c := (key fun u hu => h2 u (List.mem_cons_of_mem _ hu)).mp h1.2.2
      cases ws with
      | nil => trivial
      | cons b r => exact ⟨h1.2.1 b.1 (by rw [fl_cons]; simp), c⟩
    · rintro ⟨h1, h2⟩
      have h2' : ∀ u ∈ ws, u.1 < u.2 := fun u hu => h2 u (List.mem_cons_of_mem _ hu)
      have hw := h2 w List.mem_cons_self
      refine ⟨?_, h2⟩
      have c : Chn ws := by
        cases ws with
        | nil => trivial
        | cons b r => exact h1.2
      have p := (key h2').mpr c
      have ge : ∀ y ∈ fl ws, w.2 ≤ y := by
        cases ws with
        | nil => simp [fl]
        | cons b r =>
          intro y hy
          rw [fl_cons] at hy p
          rw [List.pairwise_cons] at p
          rcases List.mem_cons.mp hy with rfl | hy
          · exact h1.1
          · have := p.1 y hy
            have := h1.1
            omega
      rw [fl_cons, List.pairwise_cons, List.pairwise_cons]
      refine ⟨fun y hy => ?_, ge, p⟩
      rcases List.mem_cons.mp hy with rfl | hy
      · omega
      · have := ge y hy
        omega
theorem run_law_windows {wn k : Nat} {v : D} {s : T} (hv : Sane v) (hv2 : ∀ xs, v = .tup xs → ∀ ys, .tup ys ∈ xs → ys.length ≤ 1000) : ∃ b, (G wn (k + 2)).cl 11 [v] s = some (.bl b, s) ∧ (b = true ↔ WinOk v) := by
  show ∃ b, out (exs (G wn (k + 1)) wn u__law_are_windows [some (false, v), none, none, none] s) = _ ∧ _
  rw [u__law_are_windows]
  have h1 := hv.pl
  by_cases ht : ∃ xs, v = .tup xs
  · obtain ⟨xs, rfl⟩ := ht
    have c1 := pv_or (pv_not (pv_isi (G := G wn (k + 1)) (t := .tuple) (a := .loc 0) (r := [some (false, D.tup xs), none, none, none]) (po_loc rfl) h1).toPo rfl) fun _ => pv_not (pv_all (own := [2]) (t := .nm 2) (k := .seq) (es := [.loc 0]) (e := .and_ (.isi .tuple (.loc 2)) (.and_ (.cmp .eq (.bi .len [(.loc 2)]) (.con (.int 2))) (.bi .all [(.lc [3] (.nm 3) .seq [(.loc 2)] [] (.call 9 [(.loc 3), (.con (.int 0)), (.con (.int 200))]))]))) xs isV (pos_cons (po_loc rfl) pos_nil) rfl (fun x hx => ⟨_, rfl, by
      have hp := hv.el hx
      cases x with
      | tup ys =>
        show Pv _ _ _ (.bl (isiB .tuple (.tup ys) && (((ys.length : Int) == 2) && ys.all fun a => isNum a 0 200)))
        refine pv_and (pv_isi (po_loc rfl) hp) fun _ => pv_and (pv_cmp (pv_bi (pos_cons (po_loc rfl) pos_nil) rfl).toPo pv_con.toPo rfl) fun _ => pv_all ys (fun a => isNum a 0 200) (pos_cons (po_loc rfl) pos_nil) rfl fun a ha => ⟨_, rfl, pv_call (pvs_cons (pv_loc rfl) (pvs_cons pv_con (pvs_cons pv_con pvs_nil))) fun s => run_whole ?_⟩
        simp only [Ip.pl, List.all_eq_true] at hp
        exact pl_mono 59 60 a (by decide) (hp a ha)
      | _ => exact pv_and0 (pv_isi (po_loc rfl) hp)⟩)).toPo rfl
    rw [c1.toPo.ife rfl]
    have e0 : (!isiB .tuple (.tup xs)) = false := rfl
    rw [e0, Bool.false_or]
    cases hp2 : xs.all isV with
    | false =>
      refine ⟨false, by rw [Bool.not_false, if_pos rfl, ev_con]; rfl, ?_⟩
      rw [winOk_iff]
      simp only [Bool.false_eq_true, false_iff]
      rintro ⟨h, _⟩
      obtain ⟨ws, rfl, hws⟩ := all_W h
      rw [List.all_eq_false] at hp2
      obtain ⟨x, hx, hn⟩ := hp2
      obtain ⟨w, hw, rfl⟩ := List.mem_map.mp hx
      exact hn (isV_of (hws w hw))
    | true =>
      rw [Bool.not_true, if_neg (by decide)]
      obtain ⟨ws, rfl, hws⟩ := all_V hp2
      have hz := hv.z _ rfl
      rw [List.length_map] at hz
      obtain ⟨x', e⟩ := law_spots (wn := wn) (k := k + 1) (V := some (false, .tup (ws.map dP))) (s := s) ws [] none (by simp; omega)
      rw [List.nil_append] at e
      rw [(pv_lst pvs_nil).setT]
      dsimp only [List.set]
      rw [out_for (k := .seq) (ds := [.tup (ws.map dP)]) (ys := ws.map dP) (pvs_cons (pv_loc rfl) pvs_nil) rfl e, aft]
      have c3 := pv_and (pv_cmp (G := G wn (k + 1)) (o := .eq) (a := .loc 1) (b := .bi .sorted [.loc 1]) (r := [some (false, D.tup (ws.map dP)), some (true, .lst ((fl ws).map .int)), x', none]) (p := decide (fl ws = sortB ltI (fl ws))) (po_loc rfl)
          (pv_bi (d := .lst ((sortB ltI (fl ws)).map .int)) (pos_cons (po_loc rfl) pos_nil) (by
            show (if sortable ((fl ws).map .int) then some (D.lst (sortD ((fl ws).map .int))) else none) = _
            rw [if_pos (sortable_ints _), sort_ints])).toPo (by
            show (if pl 60 (D.lst ((fl ws).map .int)) && pl 60 (D.lst ((sortB ltI (fl ws)).map .int)) then some (eqDs ((fl ws).map .int) ((sortB ltI (fl ws)).map .int)) else none) = _
            rw [if_pos, eqDs_ints]
            simp only [pl, all_pl_ints, Bool.and_self]))
        fun _ => pv_all (own := [2]) (t := .nm 2) (k := .seq) (es := [.loc 0]) (e := .cmp .lt (.sub (.loc 2) (.con (.int 0))) (.sub (.loc 2) (.con (.int 1)))) (ws.map dP) (fun x => match x with
          | .tup [.int i, .int j] => decide (i < j)
          | _ => false) (pos_cons (po_loc rfl) pos_nil) rfl (fun x hx => by
            obtain ⟨w, _, rfl⟩ := List.mem_map.mp hx
            exact ⟨_, rfl, pv_cmp (pv_sub (po_loc rfl) pv_con.toPo rfl).toPo (pv_sub (po_loc rfl) pv_con.toPo rfl).toPo rfl⟩)
      refine ⟨_, c3.ret, ?_⟩
      have ea : ((ws.map dP).all fun x => match x with
          | .tup [.int i, .int j] => decide (i < j)
          | _ => false) = true ↔ ∀ w ∈ ws, w.1 < w.2 := by
        rw [List.all_eq_true]
        constructor
        · intro h w hw
          have := h (dP w) (List.mem_map.mpr ⟨w, hw, rfl⟩)
          simpa [dP] using this
        · intro h x hx
          obtain ⟨w, hw, rfl⟩ := List.mem_map.mp hx
          simpa [dP] using h w hw
      rw [Bool.and_eq_true, ea, decide_eq_true_eq, show (fl ws = sortB ltI (fl ws)) ↔ (fl ws).Pairwise (· ≤ ·) from eq_comm.trans sortI_iff, sorted_iff, winOk_iff]
      constructor
      · rintro ⟨c, h⟩
        refine ⟨W_all fun w hw => ?_, fun us hu => ?_⟩
        · have := hws w hw
          have := h w hw
          omega
        · rw [← dW_inj (v := ws) (w := us) (by unfold dW; rw [hu])]
          exact c
      · rintro ⟨h, c⟩
        refine ⟨c ws rfl, fun w hw => ?_⟩
        rw [List.all_eq_true] at h
        obtain ⟨u, e, h1, h2, h3⟩ := isW_iff.mp (h (dP w) (List.mem_map.mpr ⟨w, hw, rfl⟩))
        rw [dP_inj e]
        exact h2
  · refine ⟨false, ?_, ?_⟩
    · have c0 : Pv (G wn (k + 1)) (.not_ (.isi .tuple (.loc 0))) [some (false, v), none, none, none] (.bl true) := by
        have := pv_not (pv_isi (G := G wn (k + 1)) (t := .tuple) (a := .loc 0) (r := [some (false, v), none, none, none]) (po_loc rfl) h1).toPo rfl
        have e : (!isiB .tuple v) = true := by cases v <;> first | rfl | exact absurd ⟨_, rfl⟩ ht
        rw [← e]
        exact this
      rw [(pv_or1 c0).toPo.ife rfl, if_pos rfl, ev_con]
      rfl
    · simp only [Bool.false_eq_true, false_iff]
      rintro ⟨ws, rfl, _⟩
      exact ht ⟨_, rfl⟩

/-! ### starts_in_windows -/
def fit1 (ws : List (Int × Int)) (free m : Int) : List Int := (ws.filter fun w => decide (max w.1 free + m ≤ w.2)).map fun w => max w.1 free
def gr (ws : List (Int × Int)) : Int → List Int → Option (List Int)
  | _, [] => some []
  | free, m :: ls => match fit1 ws free m with
    | [] => none
    | f :: _ => (gr ws (f + m) ls).map fun g => f :: g
theorem itW (ws : List (Int × Int)) : itD .seq [dW ws] = some (ws.map dP) := rfl
abbrev bSt : List Ip.S := [(.set 5 false (.lc [6, 7] (.tp [(.nm 6), (.nm 7)]) .seq [(.loc 1)] [(.cmp .le (.bin .add (.bi .max [(.loc 6), (.loc 4)]) (.loc 2)) (.loc 7))] (.bi .max [(.loc 6), (.loc 4)]))),
  (.ife (.not_ (.loc 5)) [(.ret (.con .non))] []),
  (.app 3 (.sub (.loc 5) (.con (.int 0)))),
  (.set 4 false (.bin .add (.sub (.loc 5) (.con (.int 0))) (.loc 2)))]
theorem fit_pv {wn k : Nat} {ws : List (Int × Int)} {m free : Int} {V0 x3 x5 : Option (Bool × D)} : Pv (G wn k) (.lc [6, 7] (.tp [(.nm 6), (.nm 7)]) .seq [(.loc 1)] [(.cmp .le (.bin .add (.bi .max [(.loc 6), (.loc 4)]) (.loc 2)) (.loc 7))] (.bi .max [(.loc 6), (.loc 4)]))
    [V0, some (false, dW ws), some (false, .int m), x3, some (false, .int free), x5, none, none] (.lst ((fit1 ws free m).map .int)) := by
  have := pv_lcc (G := G wn k) (r := [V0, some (false, dW ws), some (false, .int m), x3, some (false, .int free), x5, none, none]) (own := [6, 7]) (t := .tp [(.nm 6), (.nm 7)]) (k := .seq) (es := [.loc 1]) (c := (.cmp .le (.bin .add (.bi .max [(.loc 6), (.loc 4)]) (.loc 2)) (.loc 7))) (e := (.bi .max [(.loc 6), (.loc 4)]))
    (ws.map dP) (fun x => match x with
      | .tup [.int i, .int j] => decide (max i free + m ≤ j)
      | _ => false) (fun x => match x with
      | .tup [.int i, _] => .int (max i free)
      | _ => .non) (pos_cons (po_loc rfl) pos_nil) (itW ws) (fun x hx => by
        obtain ⟨w, _, rfl⟩ := List.mem_map.mp hx
        refine ⟨_, rfl, ?_, fun _ => ?_⟩
        · exact (pv_cmp (pv_bin (pv_bi (pos_cons (po_loc rfl) (pos_cons (po_loc rfl) pos_nil)) (max_int _ _)).toPo (po_loc rfl) (add_int _ _)).toPo (po_loc rfl) (cmp_le_int _ _)).toPo
        · exact pv_bi (pos_cons (po_loc rfl) (pos_cons (po_loc rfl) pos_nil)) (max_int _ _))
  have e : ((ws.map dP).filter (fun x => match x with
      | .tup [.int i, .int j] => decide (max i free + m ≤ j)
      | _ => false)).map (fun x => match x with
      | .tup [.int i, _] => D.int (max i free)
      | _ => .non) = (fit1 ws free m).map .int := by
    unfold fit1
    rw [List.filter_map, List.map_map, List.map_map]
    rfl
  rw [← e]
  exact this
theorem starts_loop {wn k : Nat} {ws : List (Int × Int)} {V0 : Option (Bool × D)} {s : T} : ∀ (ls : List Int) (acc : List Int) (free : Int) (x2 x5 : Option (Bool × D)), acc.length + ls.length ≤ 1000 →
    match gr ws free ls with
    | none => forF (foT (G wn k) wn (.nm 2) bSt) (ls.map .int) [V0, some (false, dW ws), x2, some (true, .lst (acc.map .int)), some (false, .int free), x5, none, none] s = some (.rt .non s)
    | some g => ∃ x2' x5' fr, forF (foT (G wn k) wn (.nm 2) bSt) (ls.map .int) [V0, some (false, dW ws), x2, some (true, .lst (acc.map .int)), some (false, .int free), x5, none, none] s = some (.nx [V0, some (false, dW ws), x2', some (true, .lst ((acc ++ g).map .int)), some (false, .int fr), x5', none, none] s)
  | [], acc, free, x2, x5, _ => ⟨x2, x5, free, by rw [List.append_nil]; rfl⟩
  | m :: ls, acc, free, x2, x5, hz => by
    rw [List.length_cons] at hz
    rw [gr]
    have t0 : foT (G wn k) wn (.nm 2) bSt (.int m) [V0, some (false, dW ws), x2, some (true, .lst (acc.map .int)), some (false, .int free), x5, none, none] s =
        exs (G wn k) wn bSt [V0, some (false, dW ws), some (false, .int m), some (true, .lst (acc.map .int)), some (false, .int free), x5, none, none] s := by
      simp [foT, bindT]
    have t1 : exs (G wn k) wn bSt [V0, some (false, dW ws), some (false, .int m), some (true, .lst (acc.map .int)), some (false, .int free), x5, none, none] s = exs (G wn k) wn [(.ife (.not_ (.loc 5)) [(.ret (.con .non))] []), (.app 3 (.sub (.loc 5) (.con (.int 0)))), (.set 4 false (.bin .add (.sub (.loc 5) (.con (.int 0))) (.loc 2)))]
        [V0, some (false, dW ws), some (false, .int m), some (true, .lst (acc.map .int)), some (false, .int free), some (false, .lst ((fit1 ws free m).map .int)), none, none] s := by
      rw [bSt, exs_nx fit_pv.eset]
      rfl
    have c1 : Po (G wn k) (.not_ (.loc 5)) [V0, some (false, dW ws), some (false, .int m), some (true, .lst (acc.map .int)), some (false, .int free), some (false, .lst ((fit1 ws free m).map .int)), none, none] (.bl (!(!((fit1 ws free m).map D.int).isEmpty))) := (pv_not (po_loc rfl) rfl).toPo
    cases hf : fit1 ws free m with
    | nil =>
      show forF _ (_ :: _) _ _ = _
      rw [forF, t0, t1]
      rw [hf] at c1 ⊢
      rw [exs_rt (d := .non) (s' := s)]
      · rfl
      · rw [c1.eife rfl]
        show exs _ _ _ _ _ = _
        rw [exs_rt pv_con.eret]
    | cons f fs =>
      have step : forF (foT (G wn k) wn (.nm 2) bSt) ((m :: ls).map .int) [V0, some (false, dW ws), x2, some (true, .lst (acc.map .int)), some (false, .int free), x5, none, none] s =
          forF (foT (G wn k) wn (.nm 2) bSt) (ls.map .int) [V0, some (false, dW ws), some (false, .int m), some (true, .lst ((acc ++ [f]).map .int)), some (false, .int (f + m)), some (false, .lst ((f :: fs).map .int)), none, none] s := by
        rw [List.map_cons, forF, t0, t1]
        rw [hf] at c1 ⊢
        have e2 : ex (G wn k) wn (.ife (.not_ (.loc 5)) [(.ret (.con .non))] []) [V0, some (false, dW ws), some (false, .int m), some (true, .lst (acc.map .int)), some (false, .int free), some (false, .lst ((f :: fs).map .int)), none, none] s = some (.nx [V0, some (false, dW ws), some (false, .int m), some (true, .lst (acc.map .int)), some (false, .int free), some (false, .lst ((f :: fs).map .int)), none, none] s) := by
          rw [c1.eife rfl, if_neg (by simp), exs_nil]
        rw [exs_nx e2]
        rw [exs_nx (Pv.eapp (zs := acc.map .int) (d := .int f) (pv_sub (po_loc rfl) pv_con.toPo sub_lst0) rfl (by
          have : szL = 16777216 := rfl
          rw [List.length_map]; omega))]
        dsimp only [List.set]
        rw [exs_nx (Pv.eset (pv_bin (d := .int (f + m)) (pv_sub (d := .int f) (po_loc rfl) pv_con.toPo sub_lst0).toPo (po_loc rfl) rfl)), exs_nil]
        rw [List.map_append]
        rfl
      have ih := starts_loop (wn := wn) (k := k) (ws := ws) (V0 := V0) (s := s) ls (acc ++ [f]) (f + m) (some (false, .int m)) (some (false, .lst ((f :: fs).map .int))) (by rw [List.length_append, List.length_singleton]; omega)
      dsimp only
      cases hg : gr ws (f + m) ls with
      | none =>
        rw [hg] at ih
        exact step.trans ih
      | some g =>
        rw [hg] at ih
        obtain ⟨a, b, c, e⟩ := ih
        refine ⟨a, b, c, step.trans (e.trans ?_)⟩
        rw [List.append_assoc]
        rfl
def dO : Option (List Int) → D
  | none => .non
  | some g => dI g
theorem run_starts {wn k : Nat} {ls : List Int} {ws : List (Int × Int)} {s : T} (hz : ls.length ≤ 1000) : (G wn (k + 1)).cl 2 [dI ls, dW ws] s = some (dO (gr ws 0 ls), s) := by
  show out (exs (G wn k) wn u_starts_in_windows [some (false, dI ls), some (false, dW ws), none, none, none, none, none, none] s) = _
  rw [u_starts_in_windows]
  rw [out_nx (r' := [some (false, dI ls), some (false, dW ws), none, some (true, .lst []), some (false, .int 0), none, none, none]) (s' := s) (by simp [ev_loc, ev_con, ev_bin, ev_neg, ev_not, ev_and, ev_or, ev_ite, ev_cmp, ev_chain, ev_tup, ev_lst, ev_call, ev_bi, ev_isi, ev_sub, ev_sli, ev_rev, evs_nil, evs_cons, evos_nil, evos_cons, evts_nil, evts_cons, evo_none, evo_some, evV, evL, mk, intO, truD, exs_nil, exs_cons, ex_fz, ex_set, ex_par, ex_tgt, ex_app, ex_ext, ex_exp, ex_ret, ex_ife, ex_brk, ex_cnt, ex_pas, setO, setOs, seqR, ownL, frz, isMut, bindAll, bindT, bindTs, out])]
  have h := starts_loop (wn := wn) (k := k) (ws := ws) (V0 := some (false, dI ls)) (s := s) ls [] 0 none none (by simpa using hz)
  cases hg : gr ws 0 ls with
  | none =>
    rw [hg] at h
    exact out_for (k := .seq) (ds := [dI ls]) (pvs_cons (pv_loc rfl) pvs_nil) rfl h
  | some g =>
    rw [hg] at h
    obtain ⟨a, b, c, e⟩ := h
    refine (out_for (k := .seq) (ds := [dI ls]) (pvs_cons (pv_loc rfl) pvs_nil) rfl e).trans ?_
    exact aft_ret (pv_bi (pos_cons (po_loc rfl) pos_nil) rfl)
end Law

namespace Law
open Ip
/-! ### what a valid choice is -/
def Vl (ws : List (Int × Int)) : Int → List Int → List Int → Prop
  | _, [], [] => True
  | free, m :: ls, t :: ts => free ≤ t ∧ (∃ w ∈ ws, w.1 ≤ t ∧ t + m ≤ w.2) ∧ Vl ws (t + m) ls ts
  | _, _, _ => False
theorem Vl.len {ws : List (Int × Int)} : ∀ {free : Int} {ls ts : List Int}, Vl ws free ls ts → ts.length = ls.length
  | _, [], [], _ => rfl
  | _, [], _ :: _, h => h.elim
  | _, _ :: _, [], h => h.elim
  | _, m :: ls, t :: ts, h => by rw [List.length_cons, List.length_cons, h.2.2.len]
theorem Vl.less {ws : List (Int × Int)} {free free' : Int} (hf : free' ≤ free) : ∀ {ls ts : List Int}, Vl ws free ls ts → Vl ws free' ls ts
  | [], [], _ => trivial
  | [], _ :: _, h => h.elim
  | _ :: _, [], h => h.elim
  | m :: ls, t :: ts, h => ⟨Int.le_trans hf h.1, h.2.1, h.2.2⟩
/-- elementwise -/
def LeL : List Int → List Int → Prop
  | [], [] => True
  | a :: as, b :: bs => a ≤ b ∧ LeL as bs
  | _, _ => False
/-- windows in order -/
def Asc (ws : List (Int × Int)) : Prop := ws.Pairwise fun v w => v.2 ≤ w.1
theorem gr_ok {ws : List (Int × Int)} (ha : Asc ws) : ∀ (ls : List Int) (free : Int), (∀ m ∈ ls, 1 ≤ m) → match gr ws free ls with
    | none => ∀ ts, ¬ Vl ws free ls ts
    | some g => Vl ws free ls g ∧ ∀ ts, Vl ws free ls ts → LeL g ts
  | [], free, _ => ⟨trivial, fun ts h => by
      cases ts with
      | nil => trivial
      | cons _ _ => exact h.elim⟩
  | m :: ls, free, hm => by
    have hm1 := hm m List.mem_cons_self
    have ih := fun f => gr_ok ha ls f fun x hx => hm x (List.mem_cons_of_mem _ hx)
    -- the first fit is the least start
    have least : ∀ t, free ≤ t → (∃ w ∈ ws, w.1 ≤ t ∧ t + m ≤ w.2) → ∃ f fs, fit1 ws free m = f :: fs ∧ f ≤ t := by
      rintro t ht ⟨w, hw, h1, h2⟩
      unfold fit1
      clear ih
      induction ws with
      | nil => cases hw
      | cons v vs ihw =>
        have ha' := List.pairwise_cons.mp ha
        by_cases hv : max v.1 free + m ≤ v.2
        · refine ⟨max v.1 free, _, by rw [List.filter_cons, if_pos (by simpa using hv), List.map_cons], ?_⟩
          rcases List.mem_cons.mp hw with rfl | hw
          · omega
          · have := ha'.1 w hw
            omega
        · rcases List.mem_cons.mp hw with rfl | hw
          · omega
          · rw [List.filter_cons, if_neg (by simpa using hv)]
            exact ihw ha'.2 hw
    have isfit : ∀ f fs, fit1 ws free m = f :: fs → free ≤ f ∧ ∃ w ∈ ws, w.1 ≤ f ∧ f + m ≤ w.2 := by
      intro f fs e
      have : f ∈ fit1 ws free m := by rw [e]; exact List.mem_cons_self
      unfold fit1 at this
      obtain ⟨w, hw, rfl⟩ := List.mem_map.mp this
      obtain ⟨hw, h⟩ := List.mem_filter.mp hw
      have h := of_decide_eq_true h
      exact ⟨by omega, w, hw, by omega, h⟩
    rw [gr]
    cases hf : fit1 ws free m with
    | nil =>
      intro ts h
      cases ts with
      | nil => exact h
      | cons t ts =>
        obtain ⟨f, fs, e, _⟩ := least t h.1 h.2.1
        rw [hf] at e
        cases e
    | cons f fs =>
      dsimp only
      have i1 := isfit f fs hf
      have ih := ih (f + m)
      cases hg : gr ws (f + m) ls with
      | none =>
        rw [hg] at ih
        intro ts h
        cases ts with
        | nil => exact h
        | cons t ts =>
          obtain ⟨f', fs', e, hle⟩ := least t h.1 h.2.1
          rw [hf] at e
          cases e
          exact ih ts (h.2.2.less (by omega))
      | some g =>
        rw [hg] at ih
        refine ⟨⟨i1.1, i1.2, ih.1⟩, fun ts h => ?_⟩
        cases ts with
        | nil => exact h.elim
        | cons t ts =>
          obtain ⟨f', fs', e, hle⟩ := least t h.1 h.2.1
          rw [hf] at e
          cases e
          exact ⟨hle, ih.2 ts (h.2.2.less (by omega))⟩
/-- a window behind all the others changes nothing -/
theorem gr_more {ws : List (Int × Int)} {e : Int × Int} : ∀ (ls : List Int) (free : Int) (g : List Int), gr ws free ls = some g → gr (ws ++ [e]) free ls = some g
  | [], _, _, h => h
  | m :: ls, free, g, h => by
    rw [gr] at h ⊢
    cases hf : fit1 ws free m with
    | nil => rw [hf] at h; cases h
    | cons f fs =>
      rw [hf] at h
      have : fit1 (ws ++ [e]) free m = f :: (fs ++ fit1 [e] free m) := by
        unfold fit1 at hf ⊢
        rw [List.filter_append, List.map_append, hf]
        rfl
      rw [this]
      dsimp only at h ⊢
      obtain ⟨g', h1, h2⟩ := Option.map_eq_some_iff.mp h
      rw [gr_more ls (f + m) g' h1]
      exact congrArg some h2
/-- shorter ones fit, too -/
theorem Vl.short {ws : List (Int × Int)} : ∀ {free : Int} {ls ts : List Int}, (∀ m ∈ ls, 1 ≤ m) → Vl ws free ls ts → Vl ws free (ls.map fun m => max 1 (m - 1)) ts
  | _, [], [], _, _ => trivial
  | _, [], _ :: _, _, h => h.elim
  | _, _ :: _, [], _, h => h.elim
  | free, m :: ls, t :: ts, hm, h => by
    obtain ⟨h1, ⟨w, hw, h2, h3⟩, h4⟩ := h
    have := hm m List.mem_cons_self
    exact ⟨h1, ⟨w, hw, h2, by dsimp only; omega⟩, (h4.less (free' := t + max 1 (m - 1)) (by omega)).short fun x hx => hm x (List.mem_cons_of_mem _ hx)⟩

/-! ### are_in_windows -/
def chk (ws : List (Int × Int)) : Int → List Int → List Int → Bool
  | free, m :: ls, t :: ts => !(decide (t < free) || !(ws.any fun w => decide (w.1 ≤ t) && decide (t + m ≤ w.2))) && chk ws (t + m) ls ts
  | _, _, _ => true
theorem chk_iff {ws : List (Int × Int)} : ∀ {free : Int} {ls ts : List Int}, ts.length = ls.length → (chk ws free ls ts = true ↔ Vl ws free ls ts)
  | _, [], [], _ => by simp [chk, Vl]
  | _, [], _ :: _, h => by simp at h
  | _, _ :: _, [], h => by simp at h
  | free, m :: ls, t :: ts, h => by
    rw [chk, Vl, Bool.and_eq_true, chk_iff (by simpa using h)]
    simp [and_assoc]
abbrev bIn : List Ip.S := [(.ife (.or_ (.cmp .lt (.loc 5) (.loc 3)) (.not_ (.bi .any [(.lc [7, 8] (.tp [(.nm 7), (.nm 8)]) .seq [(.loc 1)] [] (.and_ (.cmp .le (.loc 7) (.loc 5)) (.cmp .le (.bin .add (.loc 5) (.loc 4)) (.loc 8))))]))) [(.ret (.con (.bl false)))] []),
  (.set 3 false (.bin .add (.loc 5) (.loc 4)))]
def winB (t m : Int) (x : D) : Bool := match x with
  | .tup [.int i, .int j] => decide (i ≤ t) && decide (t + m ≤ j)
  | _ => false
theorem win_any {ws : List (Int × Int)} {t m : Int} : (ws.map dP).any (winB t m) = ws.any fun w => decide (w.1 ≤ t) && decide (t + m ≤ w.2) := by
  rw [List.any_map]
  rfl
theorem in_loop {wn k : Nat} {ws : List (Int × Int)} {V0 V2 : Option (Bool × D)} {s : T} : ∀ (ls ts : List Int) (free : Int) (x4 x5 : Option (Bool × D)), ts.length = ls.length →
    ∃ o, forF (foT (G wn k) wn (.tp [.nm 4, .nm 5]) bIn) (List.zipWith (fun x y => .tup [x, y]) (ls.map .int) (ts.map .int)) [V0, some (false, dW ws), V2, some (false, .int free), x4, x5, none, none, none] s = some o ∧
      (if chk ws free ls ts then ∃ r, o = .nx r s else o = .rt (.bl false) s)
  | [], [], free, x4, x5, _ => ⟨_, rfl, by rw [if_pos (by simp [chk])]; exact ⟨_, rfl⟩⟩
  | [], _ :: _, _, _, _, h => by simp at h
  | _ :: _, [], _, _, _, h => by simp at h
  | m :: ls, t :: ts, free, x4, x5, h => by
    have t0 : foT (G wn k) wn (.tp [.nm 4, .nm 5]) bIn (.tup [.int m, .int t]) [V0, some (false, dW ws), V2, some (false, .int free), x4, x5, none, none, none] s = exs (G wn k) wn bIn [V0, some (false, dW ws), V2, some (false, .int free), some (false, .int m), some (false, .int t), none, none, none] s := by
      simp [foT, bindT, bindTs]
    have c1 : Po (G wn k) (.or_ (.cmp .lt (.loc 5) (.loc 3)) (.not_ (.bi .any [(.lc [7, 8] (.tp [(.nm 7), (.nm 8)]) .seq [(.loc 1)] [] (.and_ (.cmp .le (.loc 7) (.loc 5)) (.cmp .le (.bin .add (.loc 5) (.loc 4)) (.loc 8))))]))) [V0, some (false, dW ws), V2, some (false, .int free), some (false, .int m), some (false, .int t), none, none, none]
        (.bl (decide (t < free) || !((ws.map dP).any (winB t m)))) :=
      (pv_or (pv_cmp (po_loc rfl) (po_loc rfl) rfl) fun _ => pv_not (pv_any (ws.map dP) (winB t m) (pos_cons (po_loc rfl) pos_nil) rfl fun x hx => by
        obtain ⟨w, _, rfl⟩ := List.mem_map.mp hx
        exact ⟨_, rfl, pv_and (pv_cmp (po_loc rfl) (po_loc rfl) (cmp_le_int _ _)) fun _ => pv_cmp (pv_bin (po_loc rfl) (po_loc rfl) (add_int _ _)).toPo (po_loc rfl) (cmp_le_int _ _)⟩).toPo rfl).toPo
    rw [win_any] at c1
    rw [List.map_cons, List.map_cons, List.zipWith_cons_cons, forF, t0, chk]
    cases hb : (decide (t < free) || !(ws.any fun w => decide (w.1 ≤ t) && decide (t + m ≤ w.2))) with
    | true =>
      rw [hb] at c1
      refine ⟨.rt (.bl false) s, ?_, by simp⟩
      rw [bIn, exs_rt (d := .bl false) (s' := s) (by rw [c1.eife rfl, if_pos rfl, exs_rt pv_con.eret])]
      rfl
    | false =>
      rw [hb] at c1
      obtain ⟨o, e1, e2⟩ := in_loop (wn := wn) (k := k) (ws := ws) (V0 := V0) (V2 := V2) (s := s) ls ts (t + m) (some (false, .int m)) (some (false, .int t)) (by simpa using h)
      refine ⟨o, ?_, by simpa using e2⟩
      rw [bIn, exs_nx (r' := [V0, some (false, dW ws), V2, some (false, .int free), some (false, .int m), some (false, .int t), none, none, none]) (s' := s) (by rw [c1.eife rfl, if_neg (by decide), exs_nil])]
      rw [exs_nx (Pv.eset (pv_bin (po_loc rfl) (po_loc rfl) (add_int t m))), exs_nil]
      exact e1
theorem all_num {xs : List D} {lo hi : Int} (h : (xs.all fun a => isNum a lo hi) = true) : ∃ ts : List Int, xs = ts.map .int ∧ ∀ t ∈ ts, lo ≤ t ∧ t ≤ hi := by
  induction xs with
  | nil => exact ⟨[], rfl, by simp⟩
  | cons x xs ih =>
    simp only [List.all_cons, Bool.and_eq_true] at h
    obtain ⟨ts, rfl, ht⟩ := ih h.2
    obtain ⟨i, rfl, h1, h2⟩ := isNum_iff.mp h.1
    exact ⟨i :: ts, rfl, fun t ht' => by
      rcases List.mem_cons.mp ht' with rfl | ht'
      · exact ⟨h1, h2⟩
      · exact ht t ht'⟩
/-- the value is a valid choice of small numbers -/
def InOk (ws : List (Int × Int)) (ls : List Int) (v : D) : Prop := ∃ ts : List Int, v = dI ts ∧ (∀ t ∈ ts, 0 ≤ t ∧ t ≤ 200) ∧ Vl ws 0 ls ts
theorem dI_inj {a b : List Int} (h : dI a = dI b) : a = b := by
  unfold dI at h
  simp at h
  induction a generalizing b with
  | nil => cases b <;> simp_all
  | cons x a ih =>
    cases b with
    | nil => simp at h
    | cons y b =>
      simp at h
      rw [h.1, ih h.2]
theorem run_are_in {wn k : Nat} {ws : List (Int × Int)} {ls : List Int} {v : D} {s : T} (hv : Sane v) : ∃ b, (G wn (k + 2)).cl 3 [dI ls, dW ws, v] s = some (.bl b, s) ∧ (b = true ↔ InOk ws ls v) := by
  show ∃ b, out (exs (G wn (k + 1)) wn u_are_in_windows [some (false, dI ls), some (false, dW ws), some (false, v), none, none, none, none, none, none] s) = _ ∧ _
  rw [u_are_in_windows]
  have h1 := hv.pl
  by_cases ht : ∃ xs, v = .tup xs
  · obtain ⟨xs, rfl⟩ := ht
    have c1 := pv_or (pv_not (pv_isi (G := G wn (k + 1)) (t := .tuple) (a := .loc 2) (r := [some (false, dI ls), some (false, dW ws), some (false, D.tup xs), none, none, none, none, none, none]) (po_loc rfl) h1).toPo rfl)
      fun _ => pv_or (pv_cmp (o := .ne) (a := .bi .len [.loc 2]) (b := .bi .len [.loc 0]) (pv_bi (d := .int (xs.length : Int)) (pos_cons (po_loc rfl) pos_nil) rfl).toPo (pv_bi (d := .int (ls.length : Int)) (pos_cons (po_loc rfl) pos_nil) (by show some (D.int ((ls.map D.int).length : Int)) = _; rw [List.length_map])).toPo (cmp_ne_int _ _))
      fun _ => pv_not (pv_all (own := [6]) (t := .nm 6) (k := .seq) (es := [.loc 2]) (e := .call 0 [(.loc 6), (.con (.int 0)), (.con (.int 200))]) xs (fun a => isNum a 0 200) (pos_cons (po_loc rfl) pos_nil) rfl (fun x hx => ⟨_, rfl, pv_call (pvs_cons (pv_loc rfl) (pvs_cons pv_con (pvs_cons pv_con pvs_nil))) fun s => run_is_number (hv.el hx)⟩)).toPo rfl
    rw [c1.toPo.ife rfl]
    have e0 : (!isiB .tuple (.tup xs)) = false := rfl
    rw [e0, Bool.false_or]
    cases hc : (!((xs.length : Int) == (ls.length : Int)) || !(xs.all fun a => isNum a 0 200)) with
    | true =>
      refine ⟨false, by rw [if_pos rfl, ev_con]; rfl, ?_⟩
      simp only [Bool.false_eq_true, false_iff]
      rintro ⟨ts, e, h2, h3⟩
      unfold dI at e
      cases e
      have hl := h3.len
      rw [Bool.or_eq_true, Bool.not_eq_true', Bool.not_eq_true'] at hc
      rcases hc with hc | hc
      · rw [List.length_map, hl] at hc
        simp at hc
      · rw [List.all_eq_false] at hc
        obtain ⟨x, hx, hn⟩ := hc
        obtain ⟨t, ht, rfl⟩ := List.mem_map.mp hx
        exact hn (isNum_iff.mpr ⟨t, rfl, h2 t ht⟩)
    | false =>
      rw [if_neg (by decide)]
      rw [Bool.or_eq_false_iff, Bool.not_eq_false', Bool.not_eq_false'] at hc
      obtain ⟨ts, rfl, hts⟩ := all_num hc.2
      have hl : ts.length = ls.length := by
        have := hc.1
        rw [List.length_map, beq_iff_eq] at this
        omega
      rw [pv_con.set]
      dsimp only [List.set]
      obtain ⟨o, e1, e2⟩ := in_loop (wn := wn) (k := k + 1) (ws := ws) (V0 := some (false, dI ls)) (V2 := some (false, .tup (ts.map .int))) (s := s) ls ts 0 none none hl
      refine ⟨chk ws 0 ls ts, ?_, ?_⟩
      · refine (out_for (k := .zip) (ds := [dI ls, .tup (ts.map .int)]) (pvs_cons (pv_loc rfl) (pvs_cons (pv_loc rfl) pvs_nil)) rfl e1).trans ?_
        cases hk : chk ws 0 ls ts with
        | true =>
          rw [hk, if_pos rfl] at e2
          obtain ⟨r, rfl⟩ := e2
          exact aft_ret pv_con
        | false =>
          rw [hk, if_neg (by decide)] at e2
          subst e2
          rfl
      · rw [chk_iff hl]
        constructor
        · exact fun h => ⟨ts, rfl, hts, h⟩
        · rintro ⟨us, e, _, h⟩
          rw [dI_inj (a := ts) (b := us) e]
          exact h
  · refine ⟨false, ?_, ?_⟩
    · have c0 : Pv (G wn (k + 1)) (.not_ (.isi .tuple (.loc 2))) [some (false, dI ls), some (false, dW ws), some (false, v), none, none, none, none, none, none] (.bl true) := by
        have := pv_not (pv_isi (G := G wn (k + 1)) (t := .tuple) (a := .loc 2) (r := [some (false, dI ls), some (false, dW ws), some (false, v), none, none, none, none, none, none]) (po_loc rfl) h1).toPo rfl
        have e : (!isiB .tuple v) = true := by cases v <;> first | rfl | exact absurd ⟨_, rfl⟩ ht
        rw [← e]
        exact this
      rw [(pv_or1 c0).toPo.ife rfl, if_pos rfl, ev_con]
      rfl
    · simp only [Bool.false_eq_true, false_iff]
      rintro ⟨ts, rfl, _⟩
      exact ht ⟨_, rfl⟩
end Law

namespace Law
open Ip
/-! ### _law_same, of a thing and itself -/
theorem same_atom {wn k : Nat} {v : D} {s : T} (h : (∃ i, v = .int i) ∨ (∃ b, v = .bl b) ∨ v = .non) : (G wn (k + 1)).cl 7 [v, v] s = some (.bl true, s) := by
  show out (exs (G wn k) wn u__law_same [some (false, v), some (false, v), none] s) = _
  rw [u__law_same]
  rcases h with ⟨i, rfl⟩ | ⟨b, rfl⟩ | rfl
  · simp [exs_cons, ex_ife, ex_ret, ev_loc, ev_con, ev_bin, ev_neg, ev_not, ev_and, ev_or, ev_ite, ev_cmp, ev_chain, ev_tup, ev_lst, ev_call, ev_bi, ev_isi, ev_sub, ev_sli, ev_rev, evs_nil, evs_cons, evos_nil, evos_cons, evts_nil, evts_cons, evo_none, evo_some, evV, evL, mk, intO, truD, isiD, isiB, pl, seqR, exs_nil, out, cmpD, eqD]
  · simp [exs_cons, ex_ife, ex_ret, ev_loc, ev_con, ev_bin, ev_neg, ev_not, ev_and, ev_or, ev_ite, ev_cmp, ev_chain, ev_tup, ev_lst, ev_call, ev_bi, ev_isi, ev_sub, ev_sli, ev_rev, evs_nil, evs_cons, evos_nil, evos_cons, evts_nil, evts_cons, evo_none, evo_some, evV, evL, mk, intO, truD, isiD, isiB, pl, seqR, exs_nil, out, cmpD, eqD]
  · simp [exs_cons, ex_ife, ex_ret, ev_loc, ev_con, ev_bin, ev_neg, ev_not, ev_and, ev_or, ev_ite, ev_cmp, ev_chain, ev_tup, ev_lst, ev_call, ev_bi, ev_isi, ev_sub, ev_sli, ev_rev, evs_nil, evs_cons, evos_nil, evos_cons, evts_nil, evts_cons, evo_none, evo_some, evV, evL, mk, intO, truD, isiD, isiB, pl, seqR, exs_nil, out, cmpD, eqD, isNon]
theorem same_tup {wn k : Nat} {xs : List D} {s : T} (hz : xs.length ≤ 1000) (hp : pl 60 (.tup xs) = true) (h : ∀ x ∈ xs, ∀ s, (G wn k).cl 7 [x, x] s = some (.bl true, s)) : (G wn (k + 1)).cl 7 [.tup xs, .tup xs] s = some (.bl true, s) := by
  show out (exs (G wn k) wn u__law_same [some (false, .tup xs), some (false, .tup xs), none] s) = _
  rw [u__law_same]
  have c1 : Po (G wn k) (.or_ (.and_ (.isi .tuple (.loc 0)) (.isi .tuple (.loc 1))) (.and_ (.isi .list (.loc 0)) (.isi .list (.loc 1)))) [some (false, .tup xs), some (false, .tup xs), none] (.bl true) :=
    (pv_or1 (pv_and (p := true) (q := true) (pv_isi (po_loc rfl) hp) fun _ => pv_isi (po_loc rfl) hp)).toPo
  rw [c1.ife rfl, if_pos rfl]
  have szl : szL = 16777216 := rfl
  have c2 := pv_and (pv_cmp (G := G wn k) (o := .eq) (a := .bi .len [.loc 0]) (b := .bi .len [.loc 1]) (r := [some (false, .tup xs), some (false, .tup xs), none]) (pv_bi (d := .int (xs.length : Int)) (pos_cons (po_loc rfl) pos_nil) rfl).toPo (pv_bi (d := .int (xs.length : Int)) (pos_cons (po_loc rfl) pos_nil) rfl).toPo (cmp_eq_int _ _))
    fun _ => pv_all (own := [2]) (t := .nm 2) (k := .rng) (es := [.bi .len [.loc 0]]) (e := .call 7 [(.sub (.loc 0) (.loc 2)), (.sub (.loc 1) (.loc 2))]) (rngL 0 xs.length) (fun _ => true) (pos_cons (pv_bi (d := .int (xs.length : Int)) (pos_cons (po_loc rfl) pos_nil) rfl).toPo pos_nil) (rng0 (by omega)) fun x hx => by
      obtain ⟨i, hi, rfl⟩ := mem_rngL hx
      have g : xs[i]? = some xs[i] := by simp [hi]
      exact ⟨_, rfl, pv_call (pvs_cons (pv_sub (po_loc rfl) (po_loc rfl) (sub_tup g)) (pvs_cons (pv_sub (po_loc rfl) (po_loc rfl) (sub_tup g)) pvs_nil)) fun s => h _ (List.getElem_mem hi) s⟩
  rw [c2.v]
  congr 3
  simp

/-! ### _law_all -/
def ltL : List Int → List Int → Bool
  | [], [] => false
  | [], _ :: _ => true
  | _ :: _, [] => false
  | x :: xs, y :: ys => if x = y then ltL xs ys else decide (x < y)
theorem ltL_eq : ∀ (a b : List Int), ltDs (a.map .int) (b.map .int) = ltL a b
  | [], [] => rfl
  | [], _ :: _ => rfl
  | _ :: _, [] => rfl
  | x :: xs, y :: ys => by
    rw [List.map_cons, List.map_cons, ltDs, ltL, ltL_eq xs ys]
    show (if (x == y) = true then _ else decide (x < y)) = _
    by_cases h : x = y
    · simp [h]
    · rw [if_neg (by simpa using h), if_neg h]
theorem ltL_tr : ∀ (a b c : List Int), ltL b a = false → ltL c b = false → ltL c a = false
  | [], _, [], _, _ => by simp [ltL]
  | [], [], _ :: _, _, _ => by simp [ltL]
  | [], _ :: _, _ :: _, _, _ => by simp [ltL]
  | _ :: _, [], _, h, _ => by simp [ltL] at h
  | _ :: _, _ :: _, [], _, h => by simp [ltL] at h
  | x :: xs, y :: ys, z :: zs, h1, h2 => by
    rw [ltL] at h1 h2 ⊢
    split at h1
    · rename_i e
      subst e
      split at h2
      · rename_i e
        subst e
        rw [if_pos rfl]
        exact ltL_tr xs ys zs h1 h2
      · rename_i e
        rw [if_neg e]
        exact h2
    · rename_i e
      split at h2
      · rename_i e2
        subst e2
        rw [if_neg e]
        exact h1
      · rename_i e2
        have h1 := of_decide_eq_false h1
        have h2 := of_decide_eq_false h2
        rw [if_neg (by omega)]
        exact decide_eq_false (by omega)
theorem ltL_asym : ∀ (a b : List Int), ltL a b = true → ltL b a = false
  | [], [], h => by simp [ltL] at h
  | [], _ :: _, _ => by simp [ltL]
  | _ :: _, [], h => by simp [ltL] at h
  | x :: xs, y :: ys, h => by
    rw [ltL] at h ⊢
    split at h
    · rename_i e
      rw [if_pos e.symm]
      exact ltL_asym xs ys h
    · rename_i e
      rw [if_neg (fun q => e q.symm)]
      have := of_decide_eq_true h
      exact decide_eq_false (by omega)
theorem le_lt : ∀ {a b : List Int}, LeL a b → ltL a b = false → a = b
  | [], [], _, _ => rfl
  | [], _ :: _, h, _ => h.elim
  | _ :: _, [], h, _ => h.elim
  | x :: xs, y :: ys, h, h2 => by
    rw [ltL] at h2
    split at h2
    · rename_i e
      rw [e, le_lt h.2 h2]
    · rename_i e
      have := of_decide_eq_false h2
      have := h.1
      omega
def cell (row : List Int) (free m : Int) (w : Int × Int) : List (List Int × Int) := (List.range (w.2 - m + 1 - max w.1 free).toNat).map fun (i : Nat) => (row ++ [max w.1 free + (i : Int)], max w.1 free + (i : Int) + m)
def stepR (ws : List (Int × Int)) (m : Int) (rows : List (List Int × Int)) : List (List Int × Int) := rows.flatMap fun q => ws.flatMap (cell q.1 q.2 m)
def dR (q : List Int × Int) : D := .tup [dI q.1, .int q.2]
/-- small windows, small lengths -/
structure Bw (ws : List (Int × Int)) : Prop where
  w : ∀ w ∈ ws, 0 ≤ w.1 ∧ w.1 < w.2 ∧ w.2 ≤ 200 ∧ w.2 - w.1 ≤ 6
  n : ws.length ≤ 4
structure Bl (ls : List Int) : Prop where
  m : ∀ m ∈ ls, 1 ≤ m ∧ m ≤ 4
  n : ls.length ≤ 4
theorem cell_len {row : List Int} {free m : Int} {w : Int × Int} (h : w.2 - w.1 ≤ 6) (hm : 1 ≤ m) : (cell row free m w).length ≤ 6 := by
  unfold cell
  rw [List.length_map, List.length_range]
  omega
theorem cells_len {row : List Int} {free m : Int} (hm : 1 ≤ m) : ∀ {ws : List (Int × Int)}, (∀ w ∈ ws, w.2 - w.1 ≤ 6) → (ws.flatMap (cell row free m)).length ≤ 6 * ws.length
  | [], _ => by simp
  | w :: ws, h => by
    rw [List.flatMap_cons, List.length_append, List.length_cons]
    have := cells_len (row := row) (free := free) hm fun u hu => h u (List.mem_cons_of_mem _ hu)
    have := cell_len (row := row) (free := free) (h w List.mem_cons_self) hm
    omega
theorem step_len {ws : List (Int × Int)} (hb : Bw ws) {m : Int} (hm : 1 ≤ m) : ∀ (rows : List (List Int × Int)), (stepR ws m rows).length ≤ 24 * rows.length
  | [] => by simp [stepR]
  | q :: rows => by
    unfold stepR
    rw [List.flatMap_cons, List.length_append, List.length_cons]
    have h1 := step_len hb hm rows
    unfold stepR at h1
    have := cells_len (row := q.1) (free := q.2) hm fun u hu => (hb.w u hu).2.2.2
    have := hb.n
    omega
theorem mem_cell {row : List Int} {free m : Int} {w : Int × Int} {q : List Int × Int} : q ∈ cell row free m w ↔ ∃ t, max w.1 free ≤ t ∧ t + m ≤ w.2 ∧ q = (row ++ [t], t + m) := by
  unfold cell
  rw [List.mem_map]
  constructor
  · rintro ⟨i, hi, rfl⟩
    rw [List.mem_range] at hi
    exact ⟨_, by omega, by omega, rfl⟩
  · rintro ⟨t, h1, h2, rfl⟩
    exact ⟨(t - max w.1 free).toNat, by rw [List.mem_range]; omega, by
      have : max w.1 free + ((t - max w.1 free).toNat : Int) = t := by omega
      rw [this]⟩
theorem mem_step {ws : List (Int × Int)} {m : Int} {rows : List (List Int × Int)} {q : List Int × Int} : q ∈ stepR ws m rows ↔ ∃ p ∈ rows, ∃ t, p.2 ≤ t ∧ (∃ w ∈ ws, w.1 ≤ t ∧ t + m ≤ w.2) ∧ q = (p.1 ++ [t], t + m) := by
  unfold stepR
  simp only [List.mem_flatMap, mem_cell]
  constructor
  · rintro ⟨p, hp, w, hw, t, h1, h2, rfl⟩
    exact ⟨p, hp, t, by omega, ⟨w, hw, by omega, h2⟩, rfl⟩
  · rintro ⟨p, hp, t, h1, ⟨w, hw, h2, h3⟩, rfl⟩
    exact ⟨p, hp, w, hw, t, by omega, h3, rfl⟩
def allR (ws : List (Int × Int)) (ls : List Int) (rows : List (List Int × Int)) : List (List Int × Int) := ls.foldl (fun rows m => stepR ws m rows) rows
theorem mem_allR {ws : List (Int × Int)} : ∀ {ls : List Int} {rows : List (List Int × Int)} {x : List Int}, (∃ f, (x, f) ∈ allR ws ls rows) ↔ ∃ p ∈ rows, ∃ r, Vl ws p.2 ls r ∧ x = p.1 ++ r
  | [], rows, x => by
    constructor
    · rintro ⟨f, h⟩
      exact ⟨(x, f), h, [], trivial, by simp⟩
    · rintro ⟨p, hp, r, hr, rfl⟩
      cases r with
      | nil => exact ⟨p.2, by rw [List.append_nil]; exact hp⟩
      | cons _ _ => exact hr.elim
  | m :: ls, rows, x => by
    show (∃ f, (x, f) ∈ allR ws ls (stepR ws m rows)) ↔ _
    rw [mem_allR]
    constructor
    · rintro ⟨q, hq, r, hr, rfl⟩
      obtain ⟨p, hp, t, h1, h2, rfl⟩ := mem_step.mp hq
      exact ⟨p, hp, t :: r, ⟨h1, h2, hr⟩, by simp⟩
    · rintro ⟨p, hp, r, hr, rfl⟩
      cases r with
      | nil => exact hr.elim
      | cons t r => exact ⟨(p.1 ++ [t], t + m), mem_step.mpr ⟨p, hp, t, hr.1, hr.2.1, rfl⟩, r, hr.2.2, by simp⟩
/-- rows of a size, their ends small -/
def Ro (n : Nat) (q : List Int × Int) : Prop := q.1.length = n ∧ 0 ≤ q.2 ∧ q.2 ≤ 200
theorem ro_step {ws : List (Int × Int)} (hb : Bw ws) {m : Int} (hm : 1 ≤ m) {rows : List (List Int × Int)} {n : Nat} (h : ∀ q ∈ rows, Ro n q) : ∀ q ∈ stepR ws m rows, Ro (n + 1) q := by
  intro q hq
  obtain ⟨p, hp, t, h1, ⟨w, hw, h2, h3⟩, rfl⟩ := mem_step.mp hq
  have := h p hp
  have := hb.w w hw
  exact ⟨by rw [List.length_append, (h p hp).1]; rfl, by have := (h p hp).2.1; dsimp only; omega, by dsimp only; omega⟩
abbrev bA3 : List Ip.S := [(.ext 4 (.lc [9] (.nm 9) .rng [(.bi .max [(.loc 7), (.loc 6)]), (.bin .add (.bin .sub (.loc 8) (.loc 3)) (.con (.int 1)))] [] (.tup [(.bin .add (.loc 5) (.tup [(.loc 9)])), (.bin .add (.loc 9) (.loc 3))])))]
abbrev bA2 : List Ip.S := [(.for_ (.tp [(.nm 7), (.nm 8)]) .seq [(.loc 1)] bA3)]
abbrev bA1 : List Ip.S := [(.set 4 true (.lst [])),
  (.for_ (.tp [(.nm 5), (.nm 6)]) .seq [(.loc 2)] bA2),
  (.fz [4] (.set 2 false (.loc 4)))]
theorem rng2 {i j : Int} (h : j - i ≤ 1000) (hi : -1000 ≤ i ∧ i ≤ 1000) (hj : -1000 ≤ j ∧ j ≤ 1000) : itD .rng [.int i, .int j] = some (rngL i (j - i).toNat) := by
  show (if j - i ≤ (szL : Int) ∧ i.natAbs ≤ 2 ^ 61 ∧ j.natAbs ≤ 2 ^ 61 then some (rngL i (j - i).toNat) else none) = _
  have : szL = 16777216 := rfl
  rw [if_pos ⟨by omega, by omega, by omega⟩]
theorem loop3 {wn k : Nat} {V0 V1 V2 : Option (Bool × D)} {s : T} {m free : Int} {row : List Int} (hm : 1 ≤ m ∧ m ≤ 4) (hf : 0 ≤ free ∧ free ≤ 200) (hr : row.length ≤ 100) : ∀ (ws : List (Int × Int)) (acc : List (List Int × Int)) (x7 x8 : Option (Bool × D)), (∀ w ∈ ws, 0 ≤ w.1 ∧ w.1 < w.2 ∧ w.2 ≤ 200 ∧ w.2 - w.1 ≤ 6) → acc.length + 6 * ws.length ≤ 10000000 →
    ∃ x7' x8', forF (foT (G wn k) wn (.tp [.nm 7, .nm 8]) bA3) (ws.map dP) [V0, V1, V2, some (false, .int m), some (true, .lst (acc.map dR)), some (false, dI row), some (false, .int free), x7, x8, none] s =
      some (.nx [V0, V1, V2, some (false, .int m), some (true, .lst ((acc ++ ws.flatMap (cell row free m)).map dR)), some (false, dI row), some (false, .int free), x7', x8', none] s)
  | [], acc, x7, x8, _, _ => ⟨x7, x8, by simp [forF]⟩
  | w :: ws, acc, x7, x8, hw, hz => by
    rw [List.length_cons] at hz
    have h1 := hw w List.mem_cons_self
    have hc := cell_len (row := row) (free := free) h1.2.2.2 hm.1
    obtain ⟨a, b, e⟩ := loop3 (wn := wn) (k := k) (V0 := V0) (V1 := V1) (V2 := V2) (s := s) hm hf hr ws (acc ++ cell row free m w) (some (false, .int w.1)) (some (false, .int w.2)) (fun u hu => hw u (List.mem_cons_of_mem _ hu)) (by rw [List.length_append]; omega)
    refine ⟨a, b, ?_⟩
    have t0 : foT (G wn k) wn (.tp [.nm 7, .nm 8]) bA3 (dP w) [V0, V1, V2, some (false, .int m), some (true, .lst (acc.map dR)), some (false, dI row), some (false, .int free), x7, x8, none] s =
        exs (G wn k) wn bA3 [V0, V1, V2, some (false, .int m), some (true, .lst (acc.map dR)), some (false, dI row), some (false, .int free), some (false, .int w.1), some (false, .int w.2), none] s := by
      simp [foT, bindT, bindTs, dP]
    have szl : szL = 16777216 := rfl
    have c := pv_lc (G := G wn k) (own := [9]) (t := .nm 9) (k := .rng) (es := [(.bi .max [(.loc 7), (.loc 6)]), (.bin .add (.bin .sub (.loc 8) (.loc 3)) (.con (.int 1)))]) (e := (.tup [(.bin .add (.loc 5) (.tup [(.loc 9)])), (.bin .add (.loc 9) (.loc 3))])) (r := [V0, V1, V2, some (false, .int m), some (true, .lst (acc.map dR)), some (false, dI row), some (false, .int free), some (false, .int w.1), some (false, .int w.2), none])
      (rngL (max w.1 free) (w.2 - m + 1 - max w.1 free).toNat) (fun x => match x with
        | .int t => dR (row ++ [t], t + m)
        | _ => .non) (pos_cons (pv_bi (pos_cons (po_loc rfl) (pos_cons (po_loc rfl) pos_nil)) (max_int _ _)).toPo (pos_cons (pv_bin (pv_bin (po_loc rfl) (po_loc rfl) (sub_int _ _)).toPo pv_con.toPo (add_int _ _)).toPo pos_nil)) (rng2 (by omega) (by omega) (by omega)) (fun x hx => by
          unfold rngL at hx
          obtain ⟨i, _, rfl⟩ := List.mem_map.mp hx
          refine ⟨_, rfl, pv_tup (pvs_cons (pv_bin (po_loc rfl) (pv_tup (pvs_cons (pv_loc rfl) pvs_nil)).toPo ?_) (pvs_cons (pv_bin (po_loc rfl) (po_loc rfl) (add_int _ _)) pvs_nil))⟩
          show (if (row.map D.int).length + 1 ≤ szL then some (D.tup (row.map D.int ++ [D.int (max w.1 free + (i : Int))])) else none) = some (dI (row ++ [max w.1 free + (i : Int)]))
          rw [if_pos (by rw [List.length_map]; omega)]
          unfold dI
          rw [List.map_append]
          rfl)
    have ec : (rngL (max w.1 free) (w.2 - m + 1 - max w.1 free).toNat).map (fun x => match x with
        | .int t => dR (row ++ [t], t + m)
        | _ => .non) = (cell row free m w).map dR := by
      unfold rngL cell
      rw [List.map_map, List.map_map]
      rfl
    rw [ec] at c
    rw [List.map_cons, forF, t0, exs_nx (c.eext (zs := acc.map dR) rfl (by rw [List.length_map, List.length_map]; omega)), exs_nil]
    dsimp only [List.set]
    rw [← List.map_append]
    show forF _ (ws.map dP) _ _ = _
    rw [e, List.flatMap_cons, List.append_assoc]
theorem loop2 {wn k : Nat} {ws : List (Int × Int)} {V0 V2 : Option (Bool × D)} {s : T} {m : Int} {n : Nat} (hb : Bw ws) (hm : 1 ≤ m ∧ m ≤ 4) (hn : n ≤ 100) : ∀ (rows acc : List (List Int × Int)) (x5 x6 x7 x8 : Option (Bool × D)), (∀ q ∈ rows, Ro n q) → acc.length + 24 * rows.length ≤ 10000000 →
    ∃ x5' x6' x7' x8', forF (foT (G wn k) wn (.tp [.nm 5, .nm 6]) bA2) (rows.map dR) [V0, some (false, dW ws), V2, some (false, .int m), some (true, .lst (acc.map dR)), x5, x6, x7, x8, none] s =
      some (.nx [V0, some (false, dW ws), V2, some (false, .int m), some (true, .lst ((acc ++ stepR ws m rows).map dR)), x5', x6', x7', x8', none] s)
  | [], acc, x5, x6, x7, x8, _, _ => ⟨x5, x6, x7, x8, by simp [forF, stepR]⟩
  | q :: rows, acc, x5, x6, x7, x8, hr, hz => by
    rw [List.length_cons] at hz
    have hq := hr q List.mem_cons_self
    have hc := cells_len (row := q.1) (free := q.2) hm.1 fun u hu => (hb.w u hu).2.2.2
    have hbn := hb.n
    obtain ⟨a7, a8, e3⟩ := loop3 (wn := wn) (k := k) (V0 := V0) (V1 := some (false, dW ws)) (V2 := V2) (s := s) (m := m) (free := q.2) (row := q.1) hm hq.2 (by rw [hq.1]; exact hn) ws acc x7 x8 hb.w (by omega)
    obtain ⟨b5, b6, b7, b8, e⟩ := loop2 (wn := wn) (k := k) (V0 := V0) (V2 := V2) (s := s) hb hm hn rows (acc ++ ws.flatMap (cell q.1 q.2 m)) (some (false, dI q.1)) (some (false, .int q.2)) a7 a8 (fun p hp => hr p (List.mem_cons_of_mem _ hp)) (by rw [List.length_append]; omega)
    refine ⟨b5, b6, b7, b8, ?_⟩
    have t0 : foT (G wn k) wn (.tp [.nm 5, .nm 6]) bA2 (dR q) [V0, some (false, dW ws), V2, some (false, .int m), some (true, .lst (acc.map dR)), x5, x6, x7, x8, none] s =
        exs (G wn k) wn bA2 [V0, some (false, dW ws), V2, some (false, .int m), some (true, .lst (acc.map dR)), some (false, dI q.1), some (false, .int q.2), x7, x8, none] s := by
      simp [foT, bindT, bindTs, dR]
    have t1 : ex (G wn k) wn (.for_ (.tp [(.nm 7), (.nm 8)]) .seq [(.loc 1)] bA3) [V0, some (false, dW ws), V2, some (false, .int m), some (true, .lst (acc.map dR)), some (false, dI q.1), some (false, .int q.2), x7, x8, none] s = _ := (efor (pvs_cons (pv_loc rfl) pvs_nil) (itW ws)).trans e3
    rw [List.map_cons, forF, t0, bA2, exs_nx t1, exs_nil]
    show forF _ (rows.map dR) _ _ = _
    rw [e]
    unfold stepR
    rw [List.flatMap_cons, List.append_assoc]
theorem loop1 {wn k : Nat} {ws : List (Int × Int)} {V0 : Option (Bool × D)} {s : T} (hb : Bw ws) : ∀ (ls : List Int) (rows : List (List Int × Int)) (n : Nat) (x3 x4 x5 x6 x7 x8 : Option (Bool × D)), (∀ m ∈ ls, 1 ≤ m ∧ m ≤ 4) → (∀ q ∈ rows, Ro n q) → n + ls.length ≤ 100 → 24 ^ (ls.length + 1) * rows.length ≤ 10000000 →
    ∃ x3' x4' x5' x6' x7' x8', forF (foT (G wn k) wn (.nm 3) bA1) (ls.map .int) [V0, some (false, dW ws), some (false, .lst (rows.map dR)), x3, x4, x5, x6, x7, x8, none] s =
      some (.nx [V0, some (false, dW ws), some (false, .lst ((allR ws ls rows).map dR)), x3', x4', x5', x6', x7', x8', none] s)
  | [], rows, n, x3, x4, x5, x6, x7, x8, _, _, _, _ => ⟨x3, x4, x5, x6, x7, x8, rfl⟩
  | m :: ls, rows, n, x3, x4, x5, x6, x7, x8, hl, hr, hn, hz => by
    rw [List.length_cons] at hz hn
    have hm := hl m List.mem_cons_self
    have hs := step_len hb hm.1 rows
    have hz2 : 24 ^ (ls.length + 1) * (stepR ws m rows).length ≤ 10000000 := by
      refine Nat.le_trans (Nat.mul_le_mul_left _ hs) ?_
      rw [← Nat.mul_assoc]
      exact hz
    have hz3 : 24 * rows.length ≤ 10000000 := by
      refine Nat.le_trans (Nat.mul_le_mul_right _ ?_) hz
      rw [Nat.pow_succ]
      have : 0 < 24 ^ (ls.length + 1) := Nat.pos_of_ne_zero (by simp)
      omega
    obtain ⟨a5, a6, a7, a8, e2⟩ := loop2 (wn := wn) (k := k) (V0 := V0) (V2 := some (false, .lst (rows.map dR))) (s := s) hb hm (n := n) (by omega) rows [] x5 x6 x7 x8 hr (by simpa using hz3)
    rw [List.nil_append] at e2
    obtain ⟨b3, b4, b5, b6, b7, b8, e⟩ := loop1 (wn := wn) (k := k) (V0 := V0) (s := s) hb ls (stepR ws m rows) (n + 1) (some (false, .int m)) (some (false, .lst ((stepR ws m rows).map dR))) a5 a6 a7 a8 (fun x hx => hl x (List.mem_cons_of_mem _ hx)) (ro_step hb hm.1 hr) (by omega) hz2
    refine ⟨b3, b4, b5, b6, b7, b8, ?_⟩
    have t0 : foT (G wn k) wn (.nm 3) bA1 (.int m) [V0, some (false, dW ws), some (false, .lst (rows.map dR)), x3, x4, x5, x6, x7, x8, none] s =
        exs (G wn k) wn bA1 [V0, some (false, dW ws), some (false, .lst (rows.map dR)), some (false, .int m), x4, x5, x6, x7, x8, none] s := by
      simp [foT, bindT]
    have t1 : ex (G wn k) wn (.for_ (.tp [(.nm 5), (.nm 6)]) .seq [(.loc 2)] bA2) [V0, some (false, dW ws), some (false, .lst (rows.map dR)), some (false, .int m), some (true, .lst []), x5, x6, x7, x8, none] s = _ := (efor (pvs_cons (pv_loc rfl) pvs_nil) rfl).trans e2
    rw [List.map_cons, forF, t0, bA1, exs_nx (pv_lst pvs_nil).esetT]
    dsimp only [List.set]
    rw [exs_nx t1]
    rw [exs_nx (r' := [V0, some (false, dW ws), some (false, .lst ((stepR ws m rows).map dR)), some (false, .int m), some (false, .lst ((stepR ws m rows).map dR)), a5, a6, a7, a8, none]) (s' := s) (by
      rw [ex_fz]
      show ex _ _ _ [V0, some (false, dW ws), some (false, .lst (rows.map dR)), some (false, .int m), some (false, .lst ((stepR ws m rows).map dR)), a5, a6, a7, a8, none] s = _
      rw [(pv_loc rfl).eset]
      rfl), exs_nil]
    exact e
def rowsOf (ws : List (Int × Int)) (ls : List Int) : List (List Int) := sortB ltL ((allR ws ls [([], 0)]).map (·.1))
theorem mem_rows {ws : List (Int × Int)} {ls x : List Int} : x ∈ rowsOf ws ls ↔ Vl ws 0 ls x := by
  unfold rowsOf
  rw [mem_sortB, List.mem_map]
  constructor
  · rintro ⟨q, hq, rfl⟩
    obtain ⟨p, hp, r, hr, e⟩ := mem_allR.mp ⟨q.2, hq⟩
    rw [List.mem_singleton] at hp
    subst hp
    rw [e]
    exact hr
  · intro h
    obtain ⟨f, hf⟩ := mem_allR.mpr ⟨([], 0), List.mem_singleton.mpr rfl, x, h, rfl⟩
    exact ⟨_, hf, rfl⟩
theorem allR_ro {ws : List (Int × Int)} (hb : Bw ws) : ∀ {ls : List Int} {rows : List (List Int × Int)} {n : Nat}, (∀ m ∈ ls, 1 ≤ m ∧ m ≤ 4) → (∀ q ∈ rows, Ro n q) → ∀ q ∈ allR ws ls rows, Ro (n + ls.length) q
  | [], _, _, _, h => h
  | m :: ls, rows, n, hm, h => by
    have := allR_ro hb (ls := ls) (fun x hx => hm x (List.mem_cons_of_mem _ hx)) (ro_step hb (hm m List.mem_cons_self).1 h)
    rw [List.length_cons, show n + (ls.length + 1) = n + 1 + ls.length by omega]
    exact this
theorem allR_len {ws : List (Int × Int)} (hb : Bw ws) : ∀ {ls : List Int} {rows : List (List Int × Int)}, (∀ m ∈ ls, 1 ≤ m ∧ m ≤ 4) → (allR ws ls rows).length ≤ 24 ^ ls.length * rows.length
  | [], _, _ => by simp [allR]
  | m :: ls, rows, hm => by
    refine Nat.le_trans (allR_len hb (ls := ls) (rows := stepR ws m rows) fun x hx => hm x (List.mem_cons_of_mem _ hx)) ?_
    refine Nat.le_trans (Nat.mul_le_mul_left _ (step_len hb (hm m List.mem_cons_self).1 rows)) ?_
    rw [← Nat.mul_assoc, List.length_cons, Nat.pow_succ]
    exact Nat.le_refl _
theorem run_all {wn k : Nat} {ws : List (Int × Int)} {ls : List Int} {s : T} (hb : Bw ws) (hl : Bl ls) : (G wn (k + 1)).cl 10 [dI ls, dW ws] s = some (.lst ((rowsOf ws ls).map dI), s) := by
  show out (exs (G wn k) wn u__law_all [some (false, dI ls), some (false, dW ws), none, none, none, none, none, none, none, none] s) = _
  rw [u__law_all]
  have h0 : ∀ q ∈ [(([] : List Int), (0 : Int))], Ro 0 q := fun q hq => by
    rw [List.mem_singleton] at hq
    subst hq
    exact ⟨rfl, by decide, by decide⟩
  have hln := hl.n
  obtain ⟨a3, a4, a5, a6, a7, a8, e⟩ := loop1 (wn := wn) (k := k) (V0 := some (false, dI ls)) (s := s) hb ls [([], 0)] 0 none none none none none none hl.m h0 (by omega) (by
    have : 24 ^ (ls.length + 1) ≤ 24 ^ 5 := Nat.pow_le_pow_right (by decide) (by omega)
    simp only [List.length_singleton, Nat.mul_one]
    omega)
  rw [(pv_lst (pvs_cons (pv_tup (pvs_cons (pv_tup pvs_nil) (pvs_cons pv_con pvs_nil))) pvs_nil)).set]
  dsimp only [List.set]
  refine (out_for (k := .seq) (ds := [dI ls]) (pvs_cons (pv_loc rfl) pvs_nil) rfl e).trans ?_
  have c := pv_lc (G := G wn k) (own := [5, 6]) (t := .tp [.nm 5, .nm 6]) (k := .seq) (es := [.loc 2]) (e := .loc 5) (r := [some (false, dI ls), some (false, dW ws), some (false, .lst ((allR ws ls [([], 0)]).map dR)), a3, a4, a5, a6, a7, a8, none]) ((allR ws ls [([], 0)]).map dR) (fun x => match x with
    | .tup [a, _] => a
    | _ => .non) (pos_cons (po_loc rfl) pos_nil) rfl (fun x hx => by
      obtain ⟨q, _, rfl⟩ := List.mem_map.mp hx
      exact ⟨_, rfl, pv_loc rfl⟩)
  have ec : ((allR ws ls [([], 0)]).map dR).map (fun x => match x with
    | .tup [a, _] => a
    | _ => .non) = ((allR ws ls [([], 0)]).map (·.1)).map dI := by
    rw [List.map_map, List.map_map]
    rfl
  rw [ec] at c
  refine aft_ret (pv_bi (pos_cons c.toPo pos_nil) ?_)
  have hro := allR_ro hb hl.m h0
  have hs : sortable (((allR ws ls [([], 0)]).map (·.1)).map dI) = true := by
    unfold sortable
    rw [Bool.and_eq_true, Bool.and_eq_true]
    refine ⟨⟨?_, ?_⟩, ?_⟩
    · rw [List.all_eq_true]
      intro x hx
      rw [List.all_eq_true]
      intro y hy
      obtain ⟨a, _, rfl⟩ := List.mem_map.mp hx
      obtain ⟨b, _, rfl⟩ := List.mem_map.mp hy
      have al : ∀ a b : List Int, alikeDs (a.map .int) (b.map .int) = true := by
        intro a
        induction a with
        | nil => intro b; simp [alikeDs]
        | cons x a ih =>
          intro b
          cases b with
          | nil => simp [alikeDs]
          | cons y b => simp [alikeDs, alikeD, ih b]
      exact al a b
    · rw [List.all_eq_true]
      intro x hx
      obtain ⟨a, _, rfl⟩ := List.mem_map.mp hx
      exact all_pl_ints 58 a
    · cases ls with
      | nil => rfl
      | cons m ls =>
        rw [Bool.or_eq_true, Bool.or_eq_true]
        refine .inl (.inl ?_)
        rw [List.all_eq_true]
        intro x hx
        obtain ⟨a, ha, rfl⟩ := List.mem_map.mp hx
        obtain ⟨q, hq, rfl⟩ := List.mem_map.mp ha
        have := (hro q hq).1
        rw [List.length_cons] at this
        cases hq1 : q.1 with
        | nil => rw [hq1] at this; simp at this
        | cons _ _ => simp [dI, isTupC]
  show (if sortable (((allR ws ls [([], 0)]).map (·.1)).map dI) then some (D.lst (sortD (((allR ws ls [([], 0)]).map (·.1)).map dI))) else none) = _
  rw [if_pos hs]
  congr 2
  exact sortB_map (lt := ltL) (lu := ltD) (f := dI) (fun a b => ltL_eq a b) _
end Law

namespace Law
open Ip
/-! ### drawing, bending -/
theorem run_draw {wn k : Nat} {m : Int} {s : T} (hs : TOk s) (h0 : 0 < m) (h1 : m < 1073741824) : ∃ d s', (G wn (k + 1)).cl 6 [.box, .int m] s = some (.int d, s') ∧ 0 ≤ d ∧ d < m ∧ TOk s' := by
  obtain ⟨d, s', e, h2, h3, h4⟩ := drD_ok hs h0 h1
  refine ⟨d, s', ?_, h2, h3, h4⟩
  show (drD s m).map _ = _
  rw [e]
  rfl
/-- plain things, not too wide -/
def Sm : Nat → D → Prop
  | _, .non => True
  | _, .bl _ => True
  | _, .int _ => True
  | _, .str _ => True
  | n + 1, .tup xs => xs.length ≤ 100 ∧ ∀ x ∈ xs, Sm n x
  | _, _ => False
/-- numbers and tuples of such, small -/
def In : Nat → D → Prop
  | _, .int i => i.natAbs ≤ 1000
  | n + 1, .tup xs => xs.length ≤ 10 ∧ ∀ x ∈ xs, In n x
  | _, _ => False
theorem Sm.up : ∀ {n : Nat} {v : D}, Sm n v → Sm (n + 1) v
  | 0, .tup _, h => h.elim
  | n + 1, .tup xs, h => ⟨h.1, fun x hx => Sm.up (h.2 x hx)⟩
  | 0, .non, _ | 0, .bl _, _ | 0, .int _, _ | 0, .str _, _ | _ + 1, .non, _ | _ + 1, .bl _, _ | _ + 1, .int _, _ | _ + 1, .str _, _ => trivial
  | 0, .lst _, h | 0, .dic _, h | 0, .set _, h | 0, .box, h | 0, .fn _, h | _ + 1, .lst _, h | _ + 1, .dic _, h | _ + 1, .set _, h | _ + 1, .box, h | _ + 1, .fn _, h => h.elim
theorem In.sm : ∀ {n : Nat} {v : D}, In n v → Sm n v
  | 0, .tup _, h => h.elim
  | n + 1, .tup xs, h => ⟨Nat.le_trans h.1 (by decide), fun x hx => In.sm (h.2 x hx)⟩
  | 0, .int _, _ | _ + 1, .int _, _ => trivial
  | 0, .non, h | 0, .bl _, h | 0, .str _, h | 0, .lst _, h | 0, .dic _, h | 0, .set _, h | 0, .box, h | 0, .fn _, h => h.elim
  | _ + 1, .non, h | _ + 1, .bl _, h | _ + 1, .str _, h | _ + 1, .lst _, h | _ + 1, .dic _, h | _ + 1, .set _, h | _ + 1, .box, h | _ + 1, .fn _, h => h.elim
theorem Sm.pl : ∀ {n : Nat} {v : D}, Sm n v → Ip.pl n v = true
  | 0, .tup _, h => h.elim
  | n + 1, .tup xs, h => by
    simp only [Ip.pl, List.all_eq_true]
    exact fun x hx => Sm.pl (h.2 x hx)
  | 0, .non, _ | 0, .bl _, _ | 0, .int _, _ | 0, .str _, _ | _ + 1, .non, _ | _ + 1, .bl _, _ | _ + 1, .int _, _ | _ + 1, .str _, _ => rfl
  | 0, .lst _, h | 0, .dic _, h | 0, .set _, h | 0, .box, h | 0, .fn _, h | _ + 1, .lst _, h | _ + 1, .dic _, h | _ + 1, .set _, h | _ + 1, .box, h | _ + 1, .fn _, h => h.elim
theorem mem_cut {xs : List D} {lo hi : Option Int} {x : D} (h : x ∈ cutL xs lo hi) : x ∈ xs := List.mem_of_mem_drop (List.mem_of_mem_take h)
theorem len_cut (xs : List D) (lo hi : Option Int) : (cutL xs lo hi).length ≤ xs.length := by
  unfold cutL
  rw [List.length_take, List.length_drop]
  omega
theorem add_tup {xs ys : List D} (h : xs.length + ys.length ≤ 1000) : binD .add (.tup xs) (.tup ys) = some (.tup (xs ++ ys)) := by
  show (if xs.length + ys.length ≤ szL then some (D.tup (xs ++ ys)) else none) = _
  have : szL = 16777216 := rfl
  rw [if_pos (by omega)]
theorem sub_pick {xs : List D} {d : Int} (h0 : 0 ≤ d) (h1 : d < xs.length) : ∃ x, subD (.lst xs) (.int d) = some x ∧ x ∈ xs := by
  obtain ⟨i, rfl⟩ := Int.eq_ofNat_of_zero_le h0
  have hi : i < xs.length := by omega
  exact ⟨xs[i], sub_lst (by simp [hi]), List.getElem_mem hi⟩
/-- a call's value, the tape going on -/
theorem call_v {G : Gl} {f : Nat} {es : List E} {r : Env} {ds : List D} {s : T} {o : Option (D × T)} (h : Pvs G es r ds) (e : G.cl f ds s = o) : (ev G (.call f es) r).v s = o ∧ (ev G (.call f es) r).o s = o := by
  rw [ev_call]
  have : ((evs G es r s).bind fun p => G.cl f p.1 p.2) = o := by rw [h.ev, Option.bind_some]; exact e
  exact ⟨this, this⟩
theorem In.pl {n : Nat} {v : D} (hn : n ≤ 60) (h : In n v) : Ip.pl 60 v = true := pl_mono n 60 v hn h.sm.pl
abbrev bB2 : List Ip.S := [(.set 2 false (.call 6 [(.loc 0), (.con (.int 8))])),
  (.ife (.isi .tuple (.loc 1)) [(.ret (.sub (.lst [(.bin .add (.loc 1) (.sli (.loc 1) none (some (.con (.int 1))))), (.sli (.loc 1) (some (.con (.int 1))) none), (.rev (.loc 1)), (.bin .add (.loc 1) (.tup [(.con (.int 0))])), (.bin .add (.sli (.loc 1) none (some (.con (.int 1)))) (.loc 1)), (.sli (.loc 1) none (some (.neg (.con (.int 1))))), (.con .non), (.sli (.loc 1) none (some (.con (.int 1))))]) (.loc 2)))] []),
  (.ife (.and_ (.isi .int (.loc 1)) (.not_ (.isi .bool (.loc 1)))) [(.ret (.sub (.lst [(.bin .add (.loc 1) (.con (.int 1))), (.bin .sub (.loc 1) (.con (.int 1))), (.neg (.loc 1)), (.cmp .eq (.loc 1) (.con (.int 1))), (.con .non), (.bi .str [(.loc 1)]), (.tup [(.loc 1)]), (.bin .add (.loc 1) (.con (.int 1001)))]) (.loc 2)))] []),
  (.ife (.isi .str (.loc 1)) [(.ret (.sub (.lst [(.bin .add (.loc 1) (.con (.str [97]))), (.sli (.loc 1) (some (.con (.int 1))) none), (.con (.str [97, 110, 121])), .bad, (.con (.int 0)), (.con (.str [])), (.bin .add (.loc 1) (.con (.str [122, 48, 122, 48, 122, 48, 122, 48]))), (.tup [(.loc 1)])]) (.loc 2)))] []),
  (.ret (.sub (.lst [(.con (.int 0)), (.con (.int 1)), (.con .non), (.con (.bl true)), (.con (.bl false)), (.con (.str [97])), (.tup []), (.neg (.con (.int 1)))]) (.loc 2)))]
theorem bent_int {wn k n : Nat} {i : Int} {x3 : Option (Bool × D)} {s : T} (hs : TOk s) (hi : i.natAbs ≤ 1000) : ∃ r s', out (exs (G wn (k + 1)) wn bB2 [some (false, .box), some (false, .int i), none, x3] s) = some (r, s') ∧ Sm (n + 1) r ∧ TOk s' := by
  obtain ⟨d, s', e, h0, h1, hs'⟩ := run_draw (wn := wn) (k := k) hs (m := 8) (by decide) (by decide)
  rw [bB2, out_set, (call_v (pvs_cons (pv_loc rfl) (pvs_cons pv_con pvs_nil)) e).1, Option.bind_some]
  show ∃ r s'', out (exs (G wn (k + 1)) wn _ [some (false, .box), some (false, .int i), some (false, .int d), x3] s') = _ ∧ _
  rw [(pv_isi (po_loc rfl) rfl).toPo.ife rfl, if_neg (show ¬ isiB .tuple (.int i) = true from fun h => nomatch h)]
  rw [(pv_and (pv_isi (po_loc rfl) rfl) fun _ => pv_not (pv_isi (po_loc rfl) rfl).toPo rfl).toPo.ife rfl]
  have hlog : i.natAbs.log2 < 1920 := by
    have : i.natAbs.log2 ≤ i.natAbs := Nat.log2_le_self _
    omega
  have c := pv_lst (G := G wn (k + 1)) (r := [some (false, .box), some (false, .int i), some (false, .int d), x3]) (es := [(.bin .add (.loc 1) (.con (.int 1))), (.bin .sub (.loc 1) (.con (.int 1))), (.neg (.loc 1)), (.cmp .eq (.loc 1) (.con (.int 1))), (.con .non), (.bi .str [(.loc 1)]), (.tup [(.loc 1)]), (.bin .add (.loc 1) (.con (.int 1001)))])
    (pvs_cons (pv_bin (po_loc rfl) pv_con.toPo (add_int _ _)) (pvs_cons (pv_bin (po_loc rfl) pv_con.toPo (sub_int _ _)) (pvs_cons (pv_neg (po_loc rfl)) (pvs_cons (pv_cmp (po_loc rfl) pv_con.toPo (cmp_eq_int _ _)) (pvs_cons pv_con (pvs_cons (pv_bi (d := .str (txtI i)) (pos_cons (po_loc rfl) pos_nil) (if_pos hlog)) (pvs_cons (pv_tup (pvs_cons (pv_loc rfl) pvs_nil)) (pvs_cons (pv_bin (po_loc rfl) pv_con.toPo (add_int _ _)) pvs_nil))))))))
  obtain ⟨x, e2, hx⟩ := sub_pick (d := d) (xs := [.int (i + 1), .int (i - 1), .int (-i), .bl (i == 1), .non, .str (txtI i), .tup [.int i], .int (i + 1001)]) h0 h1
  refine ⟨x, s', ?_, ?_, hs'⟩
  · have e3 : (isiB .int (.int i) && !isiB .bool (.int i)) = true := rfl
    rw [if_pos e3]
    exact (pv_sub c.toPo (po_loc rfl) e2).v s'
  · simp only [List.mem_cons, List.not_mem_nil, or_false] at hx
    rcases hx with rfl | rfl | rfl | rfl | rfl | rfl | rfl | rfl <;> first | trivial | skip
    refine ⟨by simp, fun y hy => ?_⟩
    rw [List.mem_singleton] at hy
    subst hy
    cases n <;> trivial
theorem bent_tup {wn k n : Nat} {xs : List D} {x3 : Option (Bool × D)} {s : T} (hs : TOk s) (hn : n ≤ 50) (h : In (n + 1) (.tup xs)) : ∃ r s', out (exs (G wn (k + 1)) wn bB2 [some (false, .box), some (false, .tup xs), none, x3] s) = some (r, s') ∧ Sm (n + 2) r ∧ TOk s' := by
  obtain ⟨d, s', e, h0, h1, hs'⟩ := run_draw (wn := wn) (k := k) hs (m := 8) (by decide) (by decide)
  rw [bB2, out_set, (call_v (pvs_cons (pv_loc rfl) (pvs_cons pv_con pvs_nil)) e).1, Option.bind_some]
  show ∃ r s'', out (exs (G wn (k + 1)) wn _ [some (false, .box), some (false, .tup xs), some (false, .int d), x3] s') = _ ∧ _
  rw [(pv_isi (po_loc rfl) (h.pl (by omega))).toPo.ife rfl]
  have hl := h.1
  have c1 := len_cut xs none (some 1)
  have c := pv_lst (G := G wn (k + 1)) (r := [some (false, .box), some (false, .tup xs), some (false, .int d), x3]) (es := [(.bin .add (.loc 1) (.sli (.loc 1) none (some (.con (.int 1))))), (.sli (.loc 1) (some (.con (.int 1))) none), (.rev (.loc 1)), (.bin .add (.loc 1) (.tup [(.con (.int 0))])), (.bin .add (.sli (.loc 1) none (some (.con (.int 1)))) (.loc 1)), (.sli (.loc 1) none (some (.neg (.con (.int 1))))), (.con .non), (.sli (.loc 1) none (some (.con (.int 1))))])
    (pvs_cons (pv_bin (po_loc rfl) (pv_sli (po_loc rfl) pe_none (pe_some pv_con.toPo) rfl).toPo (add_tup (by omega)))
    (pvs_cons (pv_sli (po_loc rfl) (pe_some pv_con.toPo) pe_none rfl)
    (pvs_cons (pv_rev (po_loc rfl) rfl rfl)
    (pvs_cons (pv_bin (po_loc rfl) (pv_tup (pvs_cons pv_con pvs_nil)).toPo (add_tup (by simp; omega)))
    (pvs_cons (pv_bin (pv_sli (po_loc rfl) pe_none (pe_some pv_con.toPo) rfl).toPo (po_loc rfl) (add_tup (by omega)))
    (pvs_cons (pv_sli (po_loc rfl) pe_none (pe_some (pv_neg pv_con.toPo).toPo) rfl)
    (pvs_cons pv_con
    (pvs_cons (pv_sli (po_loc rfl) pe_none (pe_some pv_con.toPo) rfl) pvs_nil))))))))
  obtain ⟨x, e2, hx⟩ := sub_pick (d := d) (xs := [.tup (xs ++ cutL xs none (some 1)), .tup (cutL xs (some 1) none), .tup xs.reverse, .tup (xs ++ [.int 0]), .tup (cutL xs none (some 1) ++ xs), .tup (cutL xs none (some (-1))), .non, .tup (cutL xs none (some 1))]) h0 h1
  refine ⟨x, s', ?_, ?_, hs'⟩
  · rw [if_pos (show isiB .tuple (.tup xs) = true from rfl)]
    exact (pv_sub c.toPo (po_loc rfl) e2).v s'
  · have el : ∀ y ∈ xs, Sm (n + 1) y := fun y hy => (h.2 y hy).sm.up
    have cl := len_cut xs
    simp only [List.mem_cons, List.not_mem_nil, or_false] at hx
    rcases hx with rfl | rfl | rfl | rfl | rfl | rfl | rfl | rfl
    · exact ⟨by rw [List.length_append]; omega, fun y hy => (List.mem_append.mp hy).elim (el y) fun q => el y (mem_cut q)⟩
    · exact ⟨by have := cl (some 1) none; omega, fun y hy => el y (mem_cut hy)⟩
    · exact ⟨by rw [List.length_reverse]; omega, fun y hy => el y (List.mem_reverse.mp hy)⟩
    · exact ⟨by simp; omega, fun y hy => (List.mem_append.mp hy).elim (el y) fun q => by rw [List.mem_singleton.mp q]; trivial⟩
    · exact ⟨by rw [List.length_append]; omega, fun y hy => (List.mem_append.mp hy).elim (fun q => el y (mem_cut q)) (el y)⟩
    · exact ⟨by have := cl none (some (-1)); omega, fun y hy => el y (mem_cut hy)⟩
    · trivial
    · exact ⟨by omega, fun y hy => el y (mem_cut hy)⟩
theorem run_bent {wn k : Nat} : ∀ {n : Nat} {v : D} {s : T}, n ≤ 40 → In n v → TOk s → ∃ r s', (G wn (k + n + 2)).cl 8 [.box, v] s = some (r, s') ∧ Sm (n + 1) r ∧ TOk s' := by
  intro n
  induction n with
  | zero =>
    intro v s _ h hs
    cases v with
    | int i =>
      show ∃ r s', out (exs (G wn (k + 1)) wn u__law_bent [some (false, .box), some (false, .int i), none, none] s) = _ ∧ _
      have q0 : Pv (G wn (k + 1)) (.isi .tuple (.loc 1)) [some (false, .box), some (false, .int i), none, none] (.bl false) := pv_isi (x := .int i) (po_loc rfl) rfl
      rw [u__law_bent, exs_cons, ex_ife, (pv_and0 q0).t s false rfl, Option.bind_some]
      show ∃ r s', out (exs (G wn (k + 1)) wn bB2 [some (false, .box), some (false, .int i), none, none] s) = _ ∧ _
      exact bent_int hs h
    | _ => exact h.elim
  | succ n ih =>
    intro v s hn h hs
    cases v with
    | int i =>
      show ∃ r s', out (exs (G wn (k + n + 1 + 1)) wn u__law_bent [some (false, .box), some (false, .int i), none, none] s) = _ ∧ _
      have q0 : Pv (G wn (k + n + 1 + 1)) (.isi .tuple (.loc 1)) [some (false, .box), some (false, .int i), none, none] (.bl false) := pv_isi (x := .int i) (po_loc rfl) rfl
      rw [u__law_bent, exs_cons, ex_ife, (pv_and0 q0).t s false rfl, Option.bind_some]
      show ∃ r s', out (exs (G wn (k + n + 1 + 1)) wn bB2 [some (false, .box), some (false, .int i), none, none] s) = _ ∧ _
      exact bent_int hs h
    | tup xs =>
      show ∃ r s', out (exs (G wn (k + n + 2)) wn u__law_bent [some (false, .box), some (false, .tup xs), none, none] s) = _ ∧ _
      have hpl := h.pl (by omega)
      have hl := h.1
      have p1 := pv_isi (G := G wn (k + n + 2)) (t := .tuple) (a := .loc 1) (r := [some (false, .box), some (false, .tup xs), none, none]) (po_loc rfl) hpl
      have p2 := pv_cmp (G := G wn (k + n + 2)) (o := .gt) (a := .bi .len [.loc 1]) (b := .con (.int 0)) (r := [some (false, .box), some (false, .tup xs), none, none]) (pv_bi (d := .int (xs.length : Int)) (pos_cons (po_loc rfl) pos_nil) rfl).toPo pv_con.toPo (cmp_gt_int _ _)
      cases xs with
      | nil =>
        rw [u__law_bent, exs_cons, ex_ife, (pv_and p1 fun _ => pv_and0 p2).t s false rfl, Option.bind_some]
        show ∃ r s', out (exs (G wn (k + n + 1 + 1)) wn bB2 [some (false, .box), some (false, .tup []), none, none] s) = _ ∧ _
        exact bent_tup hs (by omega) h
      | cons x xs =>
        obtain ⟨d, s1, e, h0, h1, hs1⟩ := run_draw (wn := wn) (k := k + n + 1) hs (m := 5) (by decide) (by decide)
        have tt : (ev (G wn (k + n + 2)) (.and_ (.isi .tuple (.loc 1)) (.and_ (.cmp .gt (.bi .len [(.loc 1)]) (.con (.int 0))) (.cmp .gt (.call 6 [(.loc 0), (.con (.int 5))]) (.con (.int 0))))) [some (false, .box), some (false, .tup (x :: xs)), none, none]).t s = some (decide (0 < d), s1) := by
          rw [and_t (p1.t s true rfl), and_t (p2.t s true (by
            show some (decide ((0 : Int) < ((x :: xs).length : Int))) = _
            rw [List.length_cons]
            exact congrArg some (decide_eq_true (by omega))))]
          exact cmp_t (call_v (pvs_cons (pv_loc rfl) (pvs_cons pv_con pvs_nil)) e).2 (pv_con.o s1) (cmp_gt_int _ _)
        rw [u__law_bent, exs_cons, ex_ife, tt, Option.bind_some]
        by_cases hd : 0 < d
        · rw [decide_eq_true hd]
          dsimp only
          rw [if_pos rfl]
          obtain ⟨a, s2, e2, h2, h3, hs2⟩ := run_draw (wn := wn) (k := k + n + 1) hs1 (m := ((x :: xs).length : Int)) (by rw [List.length_cons]; omega) (by omega)
          obtain ⟨i, rfl⟩ := Int.eq_ofNat_of_zero_le h2
          have hi : i < (x :: xs).length := by omega
          obtain ⟨y, s3, e3, hy, hs3⟩ := ih (s := s2) (by omega) (h.2 _ (List.getElem_mem hi)) hs2
          have st1 : ex (G wn (k + n + 2)) wn (.set 3 false (.call 6 [(.loc 0), (.bi .len [(.loc 1)])])) [some (false, .box), some (false, .tup (x :: xs)), none, none] s1 = some (.nx [some (false, .box), some (false, .tup (x :: xs)), none, some (false, .int (i : Int))] s2) := by
            rw [ex_set, (call_v (pvs_cons (pv_loc rfl) (pvs_cons (pv_bi (d := .int ((x :: xs).length : Int)) (pos_cons (po_loc rfl) pos_nil) rfl) pvs_nil)) e2).1]
            rfl
          rw [exs_nx st1, exs_cons, ex_ret]
          have r1 := pv_sli (G := G wn (k + n + 2)) (a := .loc 1) (r := [some (false, .box), some (false, .tup (x :: xs)), none, some (false, .int (i : Int))]) (po_loc rfl) pe_none (pe_some (e := .loc 3) (i := (i : Int)) (po_loc rfl)) rfl
          have r2 := pv_sli (G := G wn (k + n + 2)) (a := .loc 1) (r := [some (false, .box), some (false, .tup (x :: xs)), none, some (false, .int (i : Int))]) (po_loc rfl) (pe_some (pv_bin (a := .loc 3) (b := .con (.int 1)) (po_loc rfl) pv_con.toPo (add_int (i : Int) 1)).toPo) pe_none rfl
          have cl1 := len_cut (x :: xs) none (some (i : Int))
          have cl2 := len_cut (x :: xs) (some ((i : Int) + 1)) none
          have e4 : (ev (G wn (k + n + 2)) (.bin .add (.bin .add (.sli (.loc 1) none (some (.loc 3))) (.tup [(.call 8 [(.loc 0), (.sub (.loc 1) (.loc 3))])])) (.sli (.loc 1) (some (.bin .add (.loc 3) (.con (.int 1)))) none)) [some (false, .box), some (false, .tup (x :: xs)), none, some (false, .int (i : Int))]).v s2 =
              some (.tup (cutL (x :: xs) none (some (i : Int)) ++ [y] ++ cutL (x :: xs) (some ((i : Int) + 1)) none), s3) := by
            have g : (x :: xs)[i]? = some (x :: xs)[i] := by simp [hi]
            have c := (call_v (G := G wn (k + n + 2)) (f := 8) (es := [(.loc 0), (.sub (.loc 1) (.loc 3))]) (r := [some (false, .box), some (false, .tup (x :: xs)), none, some (false, .int (i : Int))]) (pvs_cons (pv_loc rfl) (pvs_cons (pv_sub (po_loc rfl) (po_loc rfl) (sub_tup g)) pvs_nil)) e3).1
            exact bin_v (bin_o (r1.o s2) (tup_o (evs_one' c)) (add_tup (by rw [List.length_singleton]; omega))) (r2.o s3) (add_tup (by rw [List.length_append, List.length_singleton]; omega))
          rw [e4]
          refine ⟨_, _, rfl, ⟨by rw [List.length_append, List.length_append, List.length_singleton]; omega, fun z hz => ?_⟩, hs3⟩
          have el : ∀ y ∈ x :: xs, Sm (n + 1) y := fun y hy => (h.2 y hy).sm.up
          rcases List.mem_append.mp hz with hz | hz
          · rcases List.mem_append.mp hz with hz | hz
            · exact el z (mem_cut hz)
            · rw [List.mem_singleton.mp hz]
              exact hy
          · exact el z (mem_cut hz)
        · rw [decide_eq_false hd]
          show ∃ r s', out (exs (G wn (k + n + 1 + 1)) wn bB2 [some (false, .box), some (false, .tup (x :: xs)), none, none] s1) = _ ∧ _
          exact bent_tup hs1 (by omega) h
    | _ => exact h.elim
end Law

namespace Law
open Ip
abbrev Sl := Option (Bool × D)
abbrev en (x0 x2 x3 x4 x5 x6 x7 x8 x9 x10 x11 x12 x13 x14 x15 x16 : Sl) : Env := [x0, some (false, .box), x2, x3, x4, x5, x6, x7, x8, x9, x10, x11, x12, x13, x14, x15, x16]
section
variable {wn k : Nat} {x0 x2 x3 x4 x5 x6 x7 x8 x9 x10 x11 x12 x13 x14 x15 x16 : Sl} {s : T}
theorem ints_of_all : ∀ {ds : List D}, (∀ d ∈ ds, ∃ m : Int, d = .int m ∧ 1 ≤ m ∧ m ≤ 4) → ∃ ls : List Int, ds = ls.map .int ∧ ∀ m ∈ ls, 1 ≤ m ∧ m ≤ 4
  | [], _ => ⟨[], rfl, by simp⟩
  | d :: ds, h => by
    obtain ⟨m, rfl, hm⟩ := h _ List.mem_cons_self
    obtain ⟨ls, rfl, hl⟩ := ints_of_all fun d hd => h d (List.mem_cons_of_mem _ hd)
    exact ⟨m :: ls, rfl, fun x hx => by
      rcases List.mem_cons.mp hx with rfl | hx
      · exact hm
      · exact hl x hx⟩
/-- lengths -/
theorem st_lens (hs : TOk s) : ∃ ls s', ex (G wn (k + 1)) wn (.set 3 false (.bi .tuple [(.lc [4] (.nm 4) .rng [(.call 6 [(.loc 1), (.con (.int 5))])] [] (.bin .add (.con (.int 1)) (.call 6 [(.loc 1), (.con (.int 4))])))])) (en x0 x2 x3 x4 x5 x6 x7 x8 x9 x10 x11 x12 x13 x14 x15 x16) s =
    some (.nx (en x0 x2 (some (false, dI ls)) x4 x5 x6 x7 x8 x9 x10 x11 x12 x13 x14 x15 x16) s') ∧ Bl ls ∧ TOk s' := by
  obtain ⟨n, s1, e, h0, h1, hs1⟩ := run_draw (wn := wn) (k := k) hs (m := 5) (by decide) (by decide)
  obtain ⟨m, rfl⟩ := Int.eq_ofNat_of_zero_le h0
  have szl : szL = 16777216 := rfl
  obtain ⟨us, s2, e2, _, hl, hu, hs2⟩ := lc_draw (G := G wn (k + 1)) (own := [4]) (t := .nm 4) (k := .rng) (es := [(.call 6 [(.loc 1), (.con (.int 5))])]) (e := (.bin .add (.con (.int 1)) (.call 6 [(.loc 1), (.con (.int 4))])))
    (r := en x0 x2 x3 x4 x5 x6 x7 x8 x9 x10 x11 x12 x13 x14 x15 x16) (s := s) (P := fun d => ∃ m : Int, d = .int m ∧ 1 ≤ m ∧ m ≤ 4) (evos_one'' (call_v (pvs_cons (pv_loc rfl) (pvs_cons pv_con pvs_nil)) e).2) (rng0 (n := m) (by omega)) hs1 fun x hx => ⟨_, rfl, fun s hs => by
      obtain ⟨d, s', e3, h2, h3, hs'⟩ := run_draw (wn := wn) (k := k) hs (m := 4) (by decide) (by decide)
      exact ⟨.int (1 + d), s', bin_v (pv_con.o s) (call_v (pvs_cons (pv_loc rfl) (pvs_cons pv_con pvs_nil)) e3).2 (add_int _ _), ⟨_, rfl, by omega, by omega⟩, hs'⟩⟩
  obtain ⟨ls, rfl, hls⟩ := ints_of_all hu
  refine ⟨ls, s2, set_nx (bi_v (evos_one'' e2) rfl), ⟨hls, ?_⟩, hs2⟩
  rw [List.length_map] at hl
  unfold rngL at hl
  rw [List.length_map, List.length_range] at hl
  omega
/-- windows as they are drawn -/
structure Wd4 (ws : List (Int × Int)) (at_ : Int) : Prop where
  asc : Asc ws
  w : ∀ w ∈ ws, 0 ≤ w.1 ∧ w.1 < w.2 ∧ w.2 ≤ at_ ∧ w.2 - w.1 ≤ 6
  a : 0 ≤ at_ ∧ at_ ≤ 9 * (ws.length : Int)
abbrev bW : List Ip.S := [(.set 12 false (.bin .add (.loc 11) (.call 6 [(.loc 1), (.con (.int 4))]))),
  (.set 11 false (.bin .add (.bin .add (.loc 12) (.con (.int 1))) (.call 6 [(.loc 1), (.con (.int 6))]))),
  (.app 5 (.tup [(.loc 12), (.loc 11)]))]
theorem win_loop : ∀ (xs : List D) (ws : List (Int × Int)) (at_ : Int) (x4 x12 : Sl) (s : T), TOk s → Wd4 ws at_ → ws.length + xs.length ≤ 4 →
    ∃ ws' at' x4' x12' s', forF (foT (G wn (k + 1)) wn (.nm 4) bW) xs (en x0 x2 x3 x4 (some (true, .lst (ws.map dP))) x6 x7 x8 x9 x10 (some (false, .int at_)) x12 x13 x14 x15 x16) s =
      some (.nx (en x0 x2 x3 x4' (some (true, .lst (ws'.map dP))) x6 x7 x8 x9 x10 (some (false, .int at')) x12' x13 x14 x15 x16) s') ∧ Wd4 ws' at' ∧ ws'.length ≤ 4 ∧ TOk s'
  | [], ws, at_, x4, x12, s, hs, hw, hn => ⟨ws, at_, x4, x12, s, rfl, hw, by simpa using hn, hs⟩
  | x :: xs, ws, at_, x4, x12, s, hs, hw, hn => by
    rw [List.length_cons] at hn
    obtain ⟨d, s1, e1, h1, h2, hs1⟩ := run_draw (wn := wn) (k := k) hs (m := 4) (by decide) (by decide)
    obtain ⟨c, s2, e2, h3, h4, hs2⟩ := run_draw (wn := wn) (k := k) hs1 (m := 6) (by decide) (by decide)
    have szl : szL = 16777216 := rfl
    have hw' : Wd4 (ws ++ [(at_ + d, at_ + d + 1 + c)]) (at_ + d + 1 + c) := by
      have ha := hw.a
      refine ⟨?_, fun w hw1 => ?_, ?_⟩
      · refine List.pairwise_append.mpr ⟨hw.asc, List.pairwise_singleton _ _, fun u hu v hv => ?_⟩
        rw [List.mem_singleton] at hv
        subst hv
        have := (hw.w u hu).2.2.1
        dsimp only
        omega
      · rcases List.mem_append.mp hw1 with h | h
        · have := hw.w w h
          omega
        · rw [List.mem_singleton] at h
          subst h
          dsimp only
          omega
      · rw [List.length_append, List.length_singleton]
        omega
    obtain ⟨ws', at', x4', x12', s', e, h⟩ := win_loop xs (ws ++ [(at_ + d, at_ + d + 1 + c)]) (at_ + d + 1 + c) (some (false, x)) (some (false, .int (at_ + d))) s2 hs2 hw' (by rw [List.length_append, List.length_singleton]; omega)
    refine ⟨ws', at', x4', x12', s', ?_, h⟩
    have t0 : foT (G wn (k + 1)) wn (.nm 4) bW x (en x0 x2 x3 x4 (some (true, .lst (ws.map dP))) x6 x7 x8 x9 x10 (some (false, .int at_)) x12 x13 x14 x15 x16) s =
        exs (G wn (k + 1)) wn bW (en x0 x2 x3 (some (false, x)) (some (true, .lst (ws.map dP))) x6 x7 x8 x9 x10 (some (false, .int at_)) x12 x13 x14 x15 x16) s := by
      simp [foT, bindT]
    rw [forF, t0, bW, exs_nx (set_nx (bin_v ((po_loc rfl).o s) (call_v (pvs_cons (pv_loc rfl) (pvs_cons pv_con pvs_nil)) e1).2 (add_int at_ d)))]
    dsimp only [List.set]
    rw [exs_nx (set_nx (bin_v ((pv_bin (po_loc rfl) pv_con.toPo (add_int (at_ + d) 1)).o s1) (call_v (pvs_cons (pv_loc rfl) (pvs_cons pv_con pvs_nil)) e2).2 (add_int _ _)))]
    dsimp only [List.set]
    rw [exs_nx (Pv.eapp (zs := ws.map dP) (pv_tup (pvs_cons (pv_loc rfl) (pvs_cons (pv_loc rfl) pvs_nil))) rfl (by rw [List.length_map]; omega)), exs_nil]
    dsimp only [List.set]
    have em : ws.map dP ++ [D.tup [.int (at_ + d), .int (at_ + d + 1 + c)]] = (ws ++ [(at_ + d, at_ + d + 1 + c)]).map dP := by
      rw [List.map_append]
      rfl
    rw [em]
    exact e
theorem Wd4.bw {ws : List (Int × Int)} {at_ : Int} (h : Wd4 ws at_) (hn : ws.length ≤ 4) : Bw ws := ⟨fun w hw => by
  have := h.w w hw
  have := h.a
  omega, hn⟩
end

/-! ### the chosen ones -/
theorem gr_rows {ws : List (Int × Int)} {ls : List Int} (ha : Asc ws) (hl : Bl ls) : (rowsOf ws ls = [] → gr ws 0 ls = none) ∧ (∀ h t, rowsOf ws ls = h :: t → gr ws 0 ls = some h) := by
  have g := gr_ok ha ls 0 fun m hm => (hl.m m hm).1
  constructor
  · intro e
    cases hg : gr ws 0 ls with
    | none => rfl
    | some g' =>
      rw [hg] at g
      have := mem_rows.mpr g.1
      rw [e] at this
      cases this
  · intro h t e
    have hh : Vl ws 0 ls h := mem_rows.mp (by rw [e]; exact List.mem_cons_self)
    cases hg : gr ws 0 ls with
    | none =>
      rw [hg] at g
      exact absurd hh (g h)
    | some g' =>
      rw [hg] at g
      have hle := g.2 h hh
      have hs : (rowsOf ws ls).Pairwise (fun a b => ltL b a = false) := sortB_sorted (lt := ltL) ltL_tr ltL_asym _
      rw [e] at hs
      have hm : g' ∈ h :: t := by rw [← e]; exact mem_rows.mpr g.1
      rcases List.mem_cons.mp hm with q | q
      · rw [q]
      · rw [le_lt hle ((List.pairwise_cons.mp hs).1 g' q)]
theorem ltL_irr : ∀ a : List Int, ltL a a = false
  | [] => rfl
  | x :: xs => by rw [ltL, if_pos rfl, ltL_irr xs]
theorem Vl.small {ws : List (Int × Int)} (hb : Bw ws) : ∀ {free : Int} {ls ts : List Int}, (∀ m ∈ ls, 1 ≤ m) → 0 ≤ free → Vl ws free ls ts → ∀ t ∈ ts, 0 ≤ t ∧ t ≤ 200
  | _, [], [], _, _, _, _, h => by cases h
  | _, [], _ :: _, _, _, h, _, _ => h.elim
  | _, _ :: _, [], _, _, h, _, _ => h.elim
  | free, m :: ls, t :: ts, hm, hf, ⟨h1, ⟨w, hw, h2, h3⟩, h4⟩, x, hx => by
    have := hm m List.mem_cons_self
    have := hb.w w hw
    rcases List.mem_cons.mp hx with rfl | hx
    · omega
    · exact Vl.small hb (fun y hy => hm y (List.mem_cons_of_mem _ hy)) (by omega) h4 x hx
theorem rows_pl {ws : List (Int × Int)} {ls : List Int} : ((rowsOf ws ls).map dI).all (pl 59) = true := by
  rw [List.all_eq_true]
  intro x hx
  obtain ⟨a, _, rfl⟩ := List.mem_map.mp hx
  exact all_pl_ints 58 a
end Law

namespace Law
open Ip
section
variable {wn k : Nat} {x0 x2 x3 x4 x5 x6 x7 x8 x9 x10 x11 x12 x13 x14 x15 x16 : Sl} {s : T} {ws : List (Int × Int)} {ls : List Int}
/-- rows != [] -/
theorem rows_ne {r : Env} {g : Gl} (h : r[6]? = some (some (false, .lst ((rowsOf ws ls).map dI)))) : Pv g (.cmp .ne (.loc 6) (.lst [])) r (.bl (!(rowsOf ws ls).isEmpty)) := by
  refine pv_cmp (po_loc h) (pv_lst pvs_nil).toPo ?_
  show (if pl 60 (D.lst ((rowsOf ws ls).map dI)) && pl 60 (D.lst []) then some (!eqDs ((rowsOf ws ls).map dI) []) else none) = _
  rw [if_pos (by simp only [pl, rows_pl]; rfl)]
  cases rowsOf ws ls with
  | nil => rfl
  | cons h t => simp [eqDs]
theorem same_dO {o : Option (List Int)} (ho : ∀ g, o = some g → g.length ≤ 1000) : (G wn (k + 2)).cl 7 [dO o, dO o] s = some (.bl true, s) := by
  cases o with
  | none => exact same_atom (.inr (.inr rfl))
  | some g =>
    refine same_tup (by rw [List.length_map]; exact ho g rfl) (all_pl_ints 59 g) fun x hx s => ?_
    · obtain ⟨i, _, rfl⟩ := List.mem_map.mp hx
      exact same_atom (.inl ⟨i, rfl⟩)
/-- the first of the rows is the told choice -/
theorem st_same (ha : Asc ws) (hl : Bl ls) (h3 : x3 = some (false, dI ls)) (h6 : x6 = some (false, .lst ((rowsOf ws ls).map dI))) (h7 : x7 = some (false, dO (gr ws 0 ls))) :
    ex (G wn (k + 2)) wn (.ife (.not_ (.call 7 [(.loc 7), (.ite (.cmp .ne (.loc 6) (.lst [])) (.sub (.loc 6) (.con (.int 0))) (.con .non))])) [(.ret (.con (.bl false)))] []) (en x0 x2 x3 x4 x5 x6 x7 x8 x9 x10 x11 x12 x13 x14 x15 x16) s =
      some (.nx (en x0 x2 x3 x4 x5 x6 x7 x8 x9 x10 x11 x12 x13 x14 x15 x16) s) := by
  subst h3 h6 h7
  have g := gr_rows ha hl
  have c : Pv (G wn (k + 2)) (.ite (.cmp .ne (.loc 6) (.lst [])) (.sub (.loc 6) (.con (.int 0))) (.con .non)) (en x0 x2 (some (false, dI ls)) x4 x5 (some (false, .lst ((rowsOf ws ls).map dI))) (some (false, dO (gr ws 0 ls))) x8 x9 x10 x11 x12 x13 x14 x15 x16) (dO (gr ws 0 ls)) := by
    refine pv_ite (rows_ne rfl).toPo rfl (fun h => ?_) fun h => ?_
    · cases e : rowsOf ws ls with
      | nil => rw [e] at h; cases h
      | cons a t =>
        rw [g.2 a t e]
        exact pv_sub (x := .lst ((a :: t).map dI)) (po_loc rfl) pv_con.toPo sub_lst0
    · cases e : rowsOf ws ls with
      | nil =>
        rw [g.1 e]
        exact pv_con
      | cons a t => rw [e] at h; cases h
  have hlen : ∀ g', gr ws 0 ls = some g' → g'.length ≤ 1000 := fun g' e => by
    have q := gr_ok ha ls 0 fun m hm => (hl.m m hm).1
    rw [e] at q
    have := q.1.len
    have := hl.n
    omega
  have n := pv_not (pv_call (G := G wn (k + 2)) (f := 7) (es := [(.loc 7), (.ite (.cmp .ne (.loc 6) (.lst [])) (.sub (.loc 6) (.con (.int 0))) (.con .non))]) (d := .bl true) (pvs_cons (pv_loc rfl) (pvs_cons c pvs_nil)) fun s => same_dO hlen).toPo rfl
  rw [n.toPo.eife rfl, if_neg (by decide), exs_nil]
theorem LeL.get : ∀ {a b : List Int} {i : Nat}, LeL a b → (h : i < a.length) → ∃ h' : i < b.length, a[i] ≤ b[i]
  | [], _, _, _, h => by simp at h
  | _ :: _, [], _, h, _ => h.elim
  | x :: a, y :: b, 0, h, _ => ⟨by simp, h.1⟩
  | x :: a, y :: b, i + 1, h, hi => by
    obtain ⟨h', q⟩ := LeL.get h.2 (i := i) (by simpa using hi)
    exact ⟨by simpa using h', by simpa using q⟩
theorem eq_ints {a b : List Int} : cmpD .ne (dI a) (dI b) = some (!decide (a = b)) := by
  show (if pl 60 (dI a) && pl 60 (dI b) then some (!eqDs (a.map .int) (b.map .int)) else none) = _
  rw [if_pos (by simp only [dI, pl, all_pl_ints]; rfl), eqDs_ints]
/-- no row starts earlier; more windows, shorter lengths -/
theorem st_more {at_ : Int} (hw : Wd4 ws at_) (hn : ws.length ≤ 4) (hl : Bl ls) (h3 : x3 = some (false, dI ls)) (h5 : x5 = some (false, dW ws)) (h6 : x6 = some (false, .lst ((rowsOf ws ls).map dI))) (h7 : x7 = some (false, dO (gr ws 0 ls))) (h11 : x11 = some (false, .int at_)) :
    ex (G wn (k + 2)) wn (.ife (.cmp .isNot (.loc 7) (.con .non)) [(.ife (.bi .any [(.lc [14] (.nm 14) .seq [(.loc 6)] [] (.bi .any [(.lc [4] (.nm 4) .rng [(.bi .len [(.loc 3)])] [] (.cmp .lt (.sub (.loc 14) (.loc 4)) (.sub (.loc 7) (.loc 4))))]))]) [(.ret (.con (.bl false)))] []),
  (.fz [5] (.ife (.or_ (.cmp .ne (.call 2 [(.loc 3), (.bin .add (.loc 5) (.tup [(.tup [(.bin .add (.loc 11) (.con (.int 1))), (.bin .add (.loc 11) (.con (.int 3)))])]))]) (.loc 7)) (.cmp .is (.call 2 [(.bi .tuple [(.lc [16] (.nm 16) .seq [(.loc 3)] [] (.bi .max [(.con (.int 1)), (.bin .sub (.loc 16) (.con (.int 1)))]))]), (.loc 5)]) (.con .non))) [(.ret (.con (.bl false)))] []))] []) (en x0 x2 x3 x4 x5 x6 x7 x8 x9 x10 x11 x12 x13 x14 x15 x16) s =
      some (.nx (en x0 x2 x3 x4 x5 x6 x7 x8 x9 x10 x11 x12 x13 x14 x15 x16) s) := by
  subst h3 h5 h6 h7 h11
  have q := gr_ok hw.asc ls 0 fun m hm => (hl.m m hm).1
  have hln := hl.n
  cases hg : gr ws 0 ls with
  | none =>
    have c := pv_cmp (G := G wn (k + 2)) (o := .isNot) (a := .loc 7) (b := .con .non) (r := en x0 x2 (some (false, dI ls)) x4 (some (false, dW ws)) (some (false, .lst ((rowsOf ws ls).map dI))) (some (false, dO none)) x8 x9 x10 (some (false, .int at_)) x12 x13 x14 x15 x16) (p := false) (po_loc rfl) pv_con.toPo rfl
    rw [c.toPo.eife rfl, if_neg (by decide), exs_nil]
  | some g =>
    rw [hg] at q
    have hgl := q.1.len
    have c := pv_cmp (G := G wn (k + 2)) (o := .isNot) (a := .loc 7) (b := .con .non) (r := en x0 x2 (some (false, dI ls)) x4 (some (false, dW ws)) (some (false, .lst ((rowsOf ws ls).map dI))) (some (false, dO (some g))) x8 x9 x10 (some (false, .int at_)) x12 x13 x14 x15 x16) (p := true) (po_loc rfl) pv_con.toPo rfl
    rw [c.toPo.eife rfl, if_pos rfl]
    have szl : szL = 16777216 := rfl
    -- no row starts earlier
    have c1 := pv_any (G := G wn (k + 2)) (own := [14]) (t := .nm 14) (k := .seq) (es := [.loc 6]) (e := (.bi .any [(.lc [4] (.nm 4) .rng [(.bi .len [(.loc 3)])] [] (.cmp .lt (.sub (.loc 14) (.loc 4)) (.sub (.loc 7) (.loc 4))))])) (r := en x0 x2 (some (false, dI ls)) x4 (some (false, dW ws)) (some (false, .lst ((rowsOf ws ls).map dI))) (some (false, dO (some g))) x8 x9 x10 (some (false, .int at_)) x12 x13 x14 x15 x16)
      ((rowsOf ws ls).map dI) (fun _ => false) (pos_cons (po_loc rfl) pos_nil) rfl (fun x hx => by
        obtain ⟨a, ha, rfl⟩ := List.mem_map.mp hx
        have hv := mem_rows.mp ha
        have hle := q.2 a hv
        have hal := hv.len
        refine ⟨_, rfl, ?_⟩
        have c2 := pv_any (G := G wn (k + 2)) (own := [4]) (t := .nm 4) (k := .rng) (es := [.bi .len [.loc 3]]) (e := (.cmp .lt (.sub (.loc 14) (.loc 4)) (.sub (.loc 7) (.loc 4)))) (r := en x0 x2 (some (false, dI ls)) x4 (some (false, dW ws)) (some (false, .lst ((rowsOf ws ls).map dI))) (some (false, dO (some g))) x8 x9 x10 (some (false, .int at_)) x12 x13 (some (false, dI a)) x15 x16)
          (rngL 0 ls.length) (fun _ => false) (pos_cons (pv_bi (d := .int (ls.length : Int)) (pos_cons (po_loc rfl) pos_nil) (by show some (D.int ((ls.map D.int).length : Int)) = _; rw [List.length_map])).toPo pos_nil) (rng0 (by omega)) (fun x hx => by
            obtain ⟨i, hi, rfl⟩ := mem_rngL hx
            obtain ⟨h', hle'⟩ := hle.get (i := i) (by omega)
            have g1 : (a.map D.int)[i]? = some (.int a[i]) := by rw [List.getElem?_map, List.getElem?_eq_getElem h']; rfl
            have g2 : (g.map D.int)[i]? = some (.int g[i]) := by rw [List.getElem?_map, List.getElem?_eq_getElem (by omega)]; rfl
            refine ⟨_, rfl, pv_cmp (pv_sub (po_loc rfl) (po_loc rfl) (sub_tup g1)).toPo (pv_sub (po_loc rfl) (po_loc rfl) (sub_tup g2)).toPo ?_⟩
            rw [cmp_lt_int]
            exact congrArg some (decide_eq_false (by omega)))
        rw [show ((rngL 0 ls.length).any fun _ => false) = false by simp] at c2
        exact c2)
    rw [show (((rowsOf ws ls).map dI).any fun _ => false) = false by simp] at c1
    rw [exs_nx (r' := en x0 x2 (some (false, dI ls)) x4 (some (false, dW ws)) (some (false, .lst ((rowsOf ws ls).map dI))) (some (false, dO (some g))) x8 x9 x10 (some (false, .int at_)) x12 x13 x14 x15 x16) (s' := s) (by rw [c1.toPo.eife rfl, if_neg (by decide), exs_nil])]
    -- one window more, shorter lengths
    have hm := gr_more (ws := ws) (e := (at_ + 1, at_ + 3)) ls 0 g hg
    have cW : Pv (G wn (k + 2)) (.bin .add (.loc 5) (.tup [(.tup [(.bin .add (.loc 11) (.con (.int 1))), (.bin .add (.loc 11) (.con (.int 3)))])])) (en x0 x2 (some (false, dI ls)) x4 (some (false, dW ws)) (some (false, .lst ((rowsOf ws ls).map dI))) (some (false, dO (some g))) x8 x9 x10 (some (false, .int at_)) x12 x13 x14 x15 x16) (dW (ws ++ [(at_ + 1, at_ + 3)])) := by
      refine pv_bin (po_loc rfl) (pv_tup (pvs_cons (pv_tup (pvs_cons (pv_bin (po_loc rfl) pv_con.toPo (add_int _ _)) (pvs_cons (pv_bin (po_loc rfl) pv_con.toPo (add_int _ _)) pvs_nil))) pvs_nil)).toPo ?_
      rw [dW, add_tup (by rw [List.length_map, List.length_singleton]; omega)]
      unfold dW
      rw [List.map_append]
      rfl
    have cL : Pv (G wn (k + 2)) (.bi .tuple [(.lc [16] (.nm 16) .seq [(.loc 3)] [] (.bi .max [(.con (.int 1)), (.bin .sub (.loc 16) (.con (.int 1)))]))]) (en x0 x2 (some (false, dI ls)) x4 (some (false, dW ws)) (some (false, .lst ((rowsOf ws ls).map dI))) (some (false, dO (some g))) x8 x9 x10 (some (false, .int at_)) x12 x13 x14 x15 x16) (dI (ls.map fun m => max 1 (m - 1))) := by
      have cl := pv_lc (G := G wn (k + 2)) (own := [16]) (t := .nm 16) (k := .seq) (es := [.loc 3]) (e := (.bi .max [(.con (.int 1)), (.bin .sub (.loc 16) (.con (.int 1)))])) (r := en x0 x2 (some (false, dI ls)) x4 (some (false, dW ws)) (some (false, .lst ((rowsOf ws ls).map dI))) (some (false, dO (some g))) x8 x9 x10 (some (false, .int at_)) x12 x13 x14 x15 x16) (ls.map .int) (fun x => match x with
        | .int m => .int (max 1 (m - 1))
        | _ => .non) (pos_cons (po_loc rfl) pos_nil) rfl (fun x hx => by
          obtain ⟨m, _, rfl⟩ := List.mem_map.mp hx
          exact ⟨_, rfl, pv_bi (pos_cons pv_con.toPo (pos_cons (pv_bin (po_loc rfl) pv_con.toPo (sub_int _ _)).toPo pos_nil)) (max_int _ _)⟩)
      refine pv_bi (pos_cons cl.toPo pos_nil) ?_
      unfold dI
      rw [List.map_map, List.map_map]
      rfl
    have hsh : ∃ g2, gr ws 0 (ls.map fun m => max 1 (m - 1)) = some g2 := by
      have q2 := gr_ok hw.asc (ls.map fun m => max 1 (m - 1)) 0 fun m hm => by
        obtain ⟨a, _, rfl⟩ := List.mem_map.mp hm
        omega
      cases h2 : gr ws 0 (ls.map fun m => max 1 (m - 1)) with
      | some g2 => exact ⟨g2, rfl⟩
      | none =>
        rw [h2] at q2
        exact absurd (q.1.short fun m hm => (hl.m m hm).1) (q2 g)
    obtain ⟨g2, h2⟩ := hsh
    have c3 := pv_or (pv_cmp (G := G wn (k + 2)) (o := .ne) (b := .loc 7) (p := false) (pv_call (f := 2) (d := dI g) (pvs_cons (pv_loc (i := 3) (d := dI ls) rfl) (pvs_cons cW pvs_nil)) fun s => by
        rw [run_starts (by omega), hm]
        rfl).toPo (po_loc (d := dI g) rfl) (by rw [eq_ints]; simp)) fun _ => pv_cmp (o := .is) (b := .con .non) (p := false) (pv_call (f := 2) (d := dI g2) (pvs_cons cL (pvs_cons (pv_loc (i := 5) (d := dW ws) rfl) pvs_nil)) fun s => by
        rw [run_starts (by rw [List.length_map]; omega), h2]
        rfl).toPo pv_con.toPo rfl
    rw [exs_nx (r' := en x0 x2 (some (false, dI ls)) x4 (some (false, dW ws)) (some (false, .lst ((rowsOf ws ls).map dI))) (some (false, dO (some g))) x8 x9 x10 (some (false, .int at_)) x12 x13 x14 x15 x16) (s' := s) (by
      rw [ex_fz]
      show ex _ _ _ (en x0 x2 (some (false, dI ls)) x4 (some (false, dW ws)) (some (false, .lst ((rowsOf ws ls).map dI))) (some (false, dO (some g))) x8 x9 x10 (some (false, .int at_)) x12 x13 x14 x15 x16) s = _
      rw [c3.toPo.eife rfl, if_neg (by decide), exs_nil]), exs_nil]
/-- one of the rows, or noughts -/
theorem st_one (hb : Bw ws) (hl : Bl ls) (hs : TOk s) (h3 : x3 = some (false, dI ls)) (h6 : x6 = some (false, .lst ((rowsOf ws ls).map dI))) :
    ∃ os s', ex (G wn (k + 1)) wn (.set 8 false (.ite (.cmp .ne (.loc 6) (.lst [])) (.sub (.loc 6) (.call 6 [(.loc 1), (.bi .len [(.loc 6)])])) (.bin .mul (.tup [(.con (.int 0))]) (.bi .len [(.loc 3)])))) (en x0 x2 x3 x4 x5 x6 x7 x8 x9 x10 x11 x12 x13 x14 x15 x16) s =
      some (.nx (en x0 x2 x3 x4 x5 x6 x7 (some (false, dI os)) x9 x10 x11 x12 x13 x14 x15 x16) s') ∧ os.length ≤ 4 ∧ (∀ t ∈ os, 0 ≤ t ∧ t ≤ 200) ∧ TOk s' := by
  subst h3 h6
  have hln := hl.n
  have cn := rows_ne (ws := ws) (ls := ls) (g := G wn (k + 1)) (r := en x0 x2 (some (false, dI ls)) x4 x5 (some (false, .lst ((rowsOf ws ls).map dI))) x7 x8 x9 x10 x11 x12 x13 x14 x15 x16) rfl
  have ei : ∀ p, (!(rowsOf ws ls).isEmpty) = p → (ev (G wn (k + 1)) (.ite (.cmp .ne (.loc 6) (.lst [])) (.sub (.loc 6) (.call 6 [(.loc 1), (.bi .len [(.loc 6)])])) (.bin .mul (.tup [(.con (.int 0))]) (.bi .len [(.loc 3)]))) (en x0 x2 (some (false, dI ls)) x4 x5 (some (false, .lst ((rowsOf ws ls).map dI))) x7 x8 x9 x10 x11 x12 x13 x14 x15 x16)).v s =
      if p then (ev (G wn (k + 1)) (.sub (.loc 6) (.call 6 [(.loc 1), (.bi .len [(.loc 6)])])) (en x0 x2 (some (false, dI ls)) x4 x5 (some (false, .lst ((rowsOf ws ls).map dI))) x7 x8 x9 x10 x11 x12 x13 x14 x15 x16)).v s
      else (ev (G wn (k + 1)) (.bin .mul (.tup [(.con (.int 0))]) (.bi .len [(.loc 3)])) (en x0 x2 (some (false, dI ls)) x4 x5 (some (false, .lst ((rowsOf ws ls).map dI))) x7 x8 x9 x10 x11 x12 x13 x14 x15 x16)).v s := fun p hp => by
    rw [ev_ite]
    show ((ev _ (.cmp .ne (.loc 6) (.lst [])) _).t s).bind _ = _
    rw [cn.t s p (by rw [hp]; rfl), Option.bind_some]
  have hz : (rowsOf ws ls).length ≤ 331776 := by
    have h := allR_len hb (ls := ls) (rows := [([], 0)]) hl.m
    have e : (rowsOf ws ls).length = (allR ws ls [([], 0)]).length := by
      unfold rowsOf
      rw [sortB_len, List.length_map]
    rw [e]
    refine Nat.le_trans h ?_
    simp only [List.length_singleton, Nat.mul_one]
    exact Nat.le_trans (Nat.pow_le_pow_right (by decide) hln) (by decide)
  cases e : rowsOf ws ls with
  | nil =>
    refine ⟨List.replicate ls.length 0, s, ?_, by rw [List.length_replicate]; exact hln, fun t ht => by rw [(List.mem_replicate.mp ht).2]; decide, hs⟩
    have hpos : 1 ≤ ls.length := by
      cases ls with
      | nil =>
        have : ([] : List Int) ∈ rowsOf ws [] := mem_rows.mpr trivial
        rw [e] at this
        cases this
      | cons _ _ => simp
    have c := pv_bin (G := G wn (k + 1)) (o := .mul) (a := .tup [(.con (.int 0))]) (b := .bi .len [(.loc 3)]) (r := en x0 x2 (some (false, dI ls)) x4 x5 (some (false, .lst (([] : List (List Int)).map dI))) x7 x8 x9 x10 x11 x12 x13 x14 x15 x16) (pv_tup (pvs_cons pv_con pvs_nil)).toPo
      (pv_bi (d := .int (ls.length : Int)) (pos_cons (po_loc rfl) pos_nil) (by show some (D.int ((ls.map D.int).length : Int)) = _; rw [List.length_map])).toPo (d := dI (List.replicate ls.length 0)) (by
        show (if 1 ≤ (ls.length : Int) ∧ (ls.length : Int) ≤ 1000 ∧ [D.int 0].length ≤ 1000 then some (D.tup (repL (ls.length : Int) [D.int 0])) else none) = _
        rw [if_pos ⟨by omega, by omega, by simp⟩]
        unfold repL dI
        rw [Int.toNat_natCast, List.map_replicate]
        congr 2
        clear hpos hz e hln hl
        induction ls.length with
        | zero => rfl
        | succ n ih => rw [List.replicate_succ, List.flatten_cons, ih, List.replicate_succ]; rfl)
    have ei := ei false (by rw [e]; rfl)
    rw [e] at ei
    rw [if_neg (by decide), c.v s] at ei
    exact set_nx ei
  | cons a t =>
    obtain ⟨d, s1, e1, h1, h2, hs1⟩ := run_draw (wn := wn) (k := k) hs (m := ((a :: t).length : Int)) (by rw [List.length_cons]; omega) (by rw [e] at hz; omega)
    obtain ⟨i, rfl⟩ := Int.eq_ofNat_of_zero_le h1
    have hi : i < (a :: t).length := by omega
    have hv : Vl ws 0 ls (a :: t)[i] := mem_rows.mp (by rw [e]; exact List.getElem_mem hi)
    refine ⟨(a :: t)[i], s1, ?_, by rw [hv.len]; exact hln, Vl.small hb (fun m hm => (hl.m m hm).1) (by decide) hv, hs1⟩
    have ei := ei true (by rw [e]; rfl)
    rw [e] at ei
    rw [if_pos rfl] at ei
    have g1 : ((a :: t).map dI)[i]? = some (dI (a :: t)[i]) := by rw [List.getElem?_map, List.getElem?_eq_getElem hi]; rfl
    rw [sub_v ((po_loc rfl).o s) (call_v (pvs_cons (pv_loc rfl) (pvs_cons (pv_bi (d := .int ((a :: t).length : Int)) (pos_cons (po_loc rfl) pos_nil) (by show some (D.int (((a :: t).map dI).length : Int)) = _; rw [List.length_map])) pvs_nil)) e1).2 (sub_lst g1)] at ei
    exact set_nx ei
end
end Law

namespace Law
open Ip
section
variable {wn k : Nat} {x0 x2 x3 x4 x5 x6 x7 x8 x9 x10 x11 x12 x13 x14 x15 x16 : Sl} {s : T} {ws : List (Int × Int)} {ls : List Int}
theorem Sm.up' {n m : Nat} (h : n ≤ m) {v : D} (hv : Sm n v) : Sm m v := by
  induction h with
  | refl => exact hv
  | step _ ih => exact ih.up
theorem sm_dI {os : List Int} (h : os.length ≤ 100) : Sm 1 (dI os) := ⟨by rw [List.length_map]; exact h, fun x hx => by
  obtain ⟨i, _, rfl⟩ := List.mem_map.mp hx
  trivial⟩
theorem sm_dP (w : Int × Int) : Sm 1 (dP w) := ⟨by simp, fun x hx => by
  simp only [List.mem_cons, List.not_mem_nil, or_false] at hx
  rcases hx with rfl | rfl <;> trivial⟩
theorem sm_ws {xs : List D} (h : xs.length ≤ 100) (hx : ∀ x ∈ xs, x ∈ ws.map dP) : Sm 2 (.tup xs) := ⟨h, fun x hx' => by
  obtain ⟨w, _, rfl⟩ := List.mem_map.mp (hx x hx')
  exact sm_dP w⟩
theorem sm_os {os : List Int} {xs : List D} (h : xs.length ≤ 100) (hx : ∀ x ∈ xs, x ∈ os.map D.int) : Sm 1 (.tup xs) := ⟨h, fun x hx' => by
  obtain ⟨w, _, rfl⟩ := List.mem_map.mp (hx x hx')
  trivial⟩
theorem in_dI {os : List Int} (h : os.length ≤ 4) (ho : ∀ t ∈ os, 0 ≤ t ∧ t ≤ 200) : In 1 (dI os) := ⟨by rw [List.length_map]; omega, fun x hx => by
  obtain ⟨i, hi, rfl⟩ := List.mem_map.mp hx
  have := ho i hi
  show i.natAbs ≤ 1000
  omega⟩
theorem in_dW (hb : Bw ws) : In 2 (dW ws) := ⟨by rw [List.length_map]; have := hb.n; omega, fun x hx => by
  obtain ⟨w, hw, rfl⟩ := List.mem_map.mp hx
  have := hb.w w hw
  refine ⟨by simp, fun y hy => ?_⟩
  simp only [List.mem_cons, List.not_mem_nil, or_false] at hy
  rcases hy with rfl | rfl
  · show w.1.natAbs ≤ 1000
    omega
  · show w.2.natAbs ≤ 1000
    omega⟩
/-- the values -/
theorem st_vals {os : List Int} (hb : Bw ws) (hl : Bl ls) (ha : Asc ws) (ho : os.length ≤ 4) (h5 : x5 = some (false, dW ws)) (h7 : x7 = some (false, dO (gr ws 0 ls))) (h8 : x8 = some (false, dI os)) :
    ∃ vs, ex (G wn k) wn (.fz [5] (.set 9 false (.lst [(.loc 7), (.loc 8), (.rev (.loc 8)), (.sli (.loc 8) (some (.con (.int 1))) none), (.bin .add (.loc 8) (.tup [(.con (.int 0))])), (.loc 5), (.rev (.loc 5)), (.bin .add (.loc 5) (.sli (.loc 5) none (some (.con (.int 1))))), (.tup [(.tup [(.con (.int 3)), (.con (.int 3))])]), (.tup [(.tup [(.con (.int 0)), (.con (.int 201))])])]))) (en x0 x2 x3 x4 x5 x6 x7 x8 x9 x10 x11 x12 x13 x14 x15 x16) s =
      some (.nx (en x0 x2 x3 x4 x5 x6 x7 x8 (some (false, .lst vs)) x10 x11 x12 x13 x14 x15 x16) s) ∧ vs.length ≤ 10 ∧ ∀ v ∈ vs, Sm 4 v := by
  subst h5 h7 h8
  have hbn := hb.n
  have hln := hl.n
  have c1 := len_cut (ws.map dP) none (some 1)
  rw [List.length_map] at c1
  have c := pv_lst (G := G wn k) (r := en x0 x2 x3 x4 (some (false, dW ws)) x6 (some (false, dO (gr ws 0 ls))) (some (false, dI os)) x9 x10 x11 x12 x13 x14 x15 x16) (es := [(.loc 7), (.loc 8), (.rev (.loc 8)), (.sli (.loc 8) (some (.con (.int 1))) none), (.bin .add (.loc 8) (.tup [(.con (.int 0))])), (.loc 5), (.rev (.loc 5)), (.bin .add (.loc 5) (.sli (.loc 5) none (some (.con (.int 1))))), (.tup [(.tup [(.con (.int 3)), (.con (.int 3))])]), (.tup [(.tup [(.con (.int 0)), (.con (.int 201))])])])
    (pvs_cons (pv_loc rfl) (pvs_cons (pv_loc rfl) (pvs_cons (pv_rev (x := .tup (os.map .int)) (po_loc rfl) rfl rfl) (pvs_cons (pv_sli (x := .tup (os.map .int)) (po_loc rfl) (pe_some pv_con.toPo) pe_none rfl)
    (pvs_cons (pv_bin (x := .tup (os.map .int)) (po_loc rfl) (pv_tup (pvs_cons pv_con pvs_nil)).toPo (add_tup (by rw [List.length_map, List.length_singleton]; omega))) (pvs_cons (pv_loc rfl) (pvs_cons (pv_rev (x := .tup (ws.map dP)) (po_loc rfl) rfl rfl)
    (pvs_cons (pv_bin (x := .tup (ws.map dP)) (po_loc rfl) (pv_sli (x := .tup (ws.map dP)) (po_loc rfl) pe_none (pe_some pv_con.toPo) rfl).toPo (add_tup (by rw [List.length_map]; omega)))
    (pvs_cons (pv_tup (pvs_cons (pv_tup (pvs_cons pv_con (pvs_cons pv_con pvs_nil))) pvs_nil)) (pvs_cons (pv_tup (pvs_cons (pv_tup (pvs_cons pv_con (pvs_cons pv_con pvs_nil))) pvs_nil)) pvs_nil))))))))))
  refine ⟨_, (by
    rw [ex_fz]
    show ex _ _ _ (en x0 x2 x3 x4 (some (false, dW ws)) x6 (some (false, dO (gr ws 0 ls))) (some (false, dI os)) x9 x10 x11 x12 x13 x14 x15 x16) s = _
    exact c.eset), by simp, ?_⟩
  intro v hv
  simp only [List.mem_cons, List.not_mem_nil, or_false] at hv
  have two : ∀ i j : Int, Sm 4 (.tup [.tup [.int i, .int j]]) := fun i j => Sm.up' (n := 2) (by decide) ⟨by simp, fun x hx => by
    rw [List.mem_singleton.mp hx]
    exact sm_dP (i, j)⟩
  rcases hv with rfl | rfl | rfl | rfl | rfl | rfl | rfl | rfl | rfl | rfl
  · cases hg : gr ws 0 ls with
    | none => trivial
    | some g =>
      have q := gr_ok ha ls 0 fun m hm => (hl.m m hm).1
      rw [hg] at q
      have := q.1.len
      exact Sm.up' (n := 1) (by decide) (sm_dI (os := g) (by omega))
  · exact Sm.up' (n := 1) (by decide) (sm_dI (by omega))
  · exact Sm.up' (n := 1) (by decide) (sm_os (os := os) (by rw [List.length_reverse, List.length_map]; omega) fun x hx => List.mem_reverse.mp hx)
  · exact Sm.up' (n := 1) (by decide) (sm_os (os := os) (by have := len_cut (os.map D.int) (some 1) none; rw [List.length_map] at this; omega) fun x hx => mem_cut hx)
  · exact Sm.up' (n := 1) (by decide) ⟨by rw [List.length_append, List.length_map, List.length_singleton]; omega, fun x hx => by
      rcases List.mem_append.mp hx with h | h
      · obtain ⟨i, _, rfl⟩ := List.mem_map.mp h
        trivial
      · rw [List.mem_singleton.mp h]
        trivial⟩
  · exact Sm.up' (n := 2) (by decide) (sm_ws (ws := ws) (by rw [List.length_map]; omega) fun x hx => hx)
  · exact Sm.up' (n := 2) (by decide) (sm_ws (ws := ws) (by rw [List.length_reverse, List.length_map]; omega) fun x hx => List.mem_reverse.mp hx)
  · exact Sm.up' (n := 2) (by decide) (sm_ws (ws := ws) (by rw [List.length_append, List.length_map]; omega) fun x hx => (List.mem_append.mp hx).elim (fun h => h) fun h => mem_cut h)
  · exact two 3 3
  · exact two 0 201
/-! ### the values one by one -/
theorem Sm.sane {v : D} (h : Sm 4 v) : Sane v := ⟨pl_mono 4 20 v (by decide) h.pl, fun xs e => by
  subst e
  exact Nat.le_trans h.1 (by decide)⟩
abbrev eF : E := (.and_ (.isi .tuple (.loc 10)) (.and_ (.cmp .eq (.bi .len [(.loc 10)]) (.bi .len [(.loc 3)])) (.and_ (.bi .all [(.lc [15] (.nm 15) .seq [(.loc 10)] [] (.call 9 [(.loc 15), (.con (.int 0)), (.con (.int 200))]))]) (.cmp .in_ (.loc 10) (.loc 6)))))
theorem fits_pv {v : D} (hv : Sm 4 v) (h3 : x3 = some (false, dI ls)) (h6 : x6 = some (false, .lst ((rowsOf ws ls).map dI))) (h10 : x10 = some (false, v)) : ∃ b, Pv (G wn (k + 1)) eF (en x0 x2 x3 x4 x5 x6 x7 x8 x9 x10 x11 x12 x13 x14 x15 x16) (.bl b) ∧ (b = true ↔ InOk ws ls v) := by
  subst h3 h6 h10
  have hp := hv.sane.pl
  by_cases ht : ∃ xs, v = .tup xs
  · obtain ⟨xs, rfl⟩ := ht
    have c := pv_and (pv_isi (G := G wn (k + 1)) (t := .tuple) (a := .loc 10) (r := en x0 x2 (some (false, dI ls)) x4 x5 (some (false, .lst ((rowsOf ws ls).map dI))) x7 x8 x9 (some (false, .tup xs)) x11 x12 x13 x14 x15 x16) (po_loc rfl) hp) fun _ =>
      pv_and (pv_cmp (o := .eq) (a := .bi .len [.loc 10]) (b := .bi .len [.loc 3]) (pv_bi (d := .int (xs.length : Int)) (pos_cons (po_loc rfl) pos_nil) rfl).toPo (pv_bi (d := .int (ls.length : Int)) (pos_cons (po_loc rfl) pos_nil) (by show some (D.int ((ls.map D.int).length : Int)) = _; rw [List.length_map])).toPo (cmp_eq_int _ _)) fun _ =>
      pv_and (pv_all (own := [15]) (t := .nm 15) (k := .seq) (es := [.loc 10]) (e := .call 9 [(.loc 15), (.con (.int 0)), (.con (.int 200))]) xs (fun a => isNum a 0 200) (pos_cons (po_loc rfl) pos_nil) rfl (fun x hx => ⟨_, rfl, pv_call (pvs_cons (pv_loc rfl) (pvs_cons pv_con (pvs_cons pv_con pvs_nil))) fun s => run_whole (hv.sane.el hx)⟩)) fun _ =>
      pv_cmp (o := .in_) (a := .loc 10) (b := .loc 6) (p := ((rowsOf ws ls).map dI).any fun y => eqD y (.tup xs)) (po_loc rfl) (po_loc rfl) (by
        show (if pl 60 (D.tup xs) && ((rowsOf ws ls).map dI).all (pl 59) then some (((rowsOf ws ls).map dI).any fun y => eqD y (D.tup xs)) else none) = _
        rw [if_pos (by rw [hp, rows_pl]; rfl)])
    refine ⟨_, c, ?_⟩
    have e0 : isiB .tuple (.tup xs) = true := rfl
    rw [e0, Bool.true_and, Bool.and_eq_true, Bool.and_eq_true, beq_iff_eq]
    constructor
    · rintro ⟨h1, h2, h3⟩
      obtain ⟨ts, rfl, hts⟩ := all_num h2
      rw [List.any_eq_true] at h3
      obtain ⟨y, hy, he⟩ := h3
      obtain ⟨a, ha, rfl⟩ := List.mem_map.mp hy
      have he : eqDs (a.map .int) (ts.map .int) = true := he
      rw [eqDs_ints, decide_eq_true_eq] at he
      subst he
      exact ⟨a, rfl, hts, mem_rows.mp ha⟩
    · rintro ⟨ts, e, hts, hV⟩
      unfold dI at e
      cases e
      refine ⟨by rw [List.length_map, hV.len], ?_, ?_⟩
      · rw [List.all_eq_true]
        intro x hx
        obtain ⟨t, ht, rfl⟩ := List.mem_map.mp hx
        exact isNum_iff.mpr ⟨t, rfl, hts t ht⟩
      · rw [List.any_eq_true]
        refine ⟨dI ts, List.mem_map.mpr ⟨ts, mem_rows.mpr hV, rfl⟩, ?_⟩
        show eqDs (ts.map .int) (ts.map .int) = true
        rw [eqDs_ints]
        simp
  · have c0 : Pv (G wn (k + 1)) (.isi .tuple (.loc 10)) (en x0 x2 (some (false, dI ls)) x4 x5 (some (false, .lst ((rowsOf ws ls).map dI))) x7 x8 x9 (some (false, v)) x11 x12 x13 x14 x15 x16) (.bl false) := by
      have := pv_isi (G := G wn (k + 1)) (t := .tuple) (a := .loc 10) (r := en x0 x2 (some (false, dI ls)) x4 x5 (some (false, .lst ((rowsOf ws ls).map dI))) x7 x8 x9 (some (false, v)) x11 x12 x13 x14 x15 x16) (po_loc rfl) hp
      have e : isiB .tuple v = false := by cases v <;> first | rfl | exact absurd ⟨_, rfl⟩ ht
      rw [e] at this
      exact this
    refine ⟨false, pv_and0 c0, ?_⟩
    simp only [Bool.false_eq_true, false_iff]
    rintro ⟨ts, rfl, _⟩
    exact ht ⟨_, rfl⟩
abbrev bV : List Ip.S := [(.set 13 false eF),
  (.fz [5] (.ife (.not_ (.call 7 [(.tup [(.call 3 [(.loc 3), (.loc 5), (.loc 10)]), (.call 1 [(.loc 10)])]), (.tup [(.loc 13), (.call 11 [(.loc 10)])])])) [(.ret (.con (.bl false)))] []))]
theorem val_turn {v : D} (hv : Sm 4 v) (h3 : x3 = some (false, dI ls)) (h5 : x5 = some (false, dW ws)) (h6 : x6 = some (false, .lst ((rowsOf ws ls).map dI))) : ∃ x13', foT (G wn (k + 3)) wn (.nm 10) bV v (en x0 x2 x3 x4 x5 x6 x7 x8 x9 x10 x11 x12 x13 x14 x15 x16) s = some (.nx (en x0 x2 x3 x4 x5 x6 x7 x8 x9 (some (false, v)) x11 x12 x13' x14 x15 x16) s) := by
  have t0 : foT (G wn (k + 3)) wn (.nm 10) bV v (en x0 x2 x3 x4 x5 x6 x7 x8 x9 x10 x11 x12 x13 x14 x15 x16) s = exs (G wn (k + 3)) wn bV (en x0 x2 x3 x4 x5 x6 x7 x8 x9 (some (false, v)) x11 x12 x13 x14 x15 x16) s := by
    simp [foT, bindT]
  obtain ⟨a, c1, ha⟩ := fits_pv (wn := wn) (k := k + 2) (x0 := x0) (x2 := x2) (x4 := x4) (x5 := x5) (x7 := x7) (x8 := x8) (x9 := x9) (x10 := some (false, v)) (x11 := x11) (x12 := x12) (x13 := x13) (x14 := x14) (x15 := x15) (x16 := x16) hv h3 h6 rfl
  rw [t0, bV, exs_nx c1.eset]
  dsimp only [List.set]
  subst h3 h5 h6
  refine ⟨some (false, .bl a), ?_⟩
  have A := fun s => run_are_in (wn := wn) (k := k + 1) (ws := ws) (ls := ls) (v := v) (s := s) hv.sane
  have B := fun s => run_are_windows (wn := wn) (k := k + 1) (v := v) (s := s) hv.sane
  have C := fun s => run_law_windows (wn := wn) (k := k + 1) (v := v) (s := s) hv.sane fun xs e ys hy => by
    subst e
    have := (hv.2 _ hy)
    exact Nat.le_trans this.1 (by decide)
  have hA : ∀ s, (G wn (k + 3)).cl 3 [dI ls, dW ws, v] s = some (.bl a, s) := fun s => by
    obtain ⟨b, e, hb⟩ := A s
    rw [show a = b from by rw [Bool.eq_iff_iff, ha, hb]]
    exact e
  obtain ⟨b, eB, hb⟩ := B s
  have hB : ∀ s, (G wn (k + 3)).cl 1 [v] s = some (.bl b, s) := fun s => by
    obtain ⟨b', e, hb'⟩ := B s
    rw [show b = b' from by rw [Bool.eq_iff_iff, hb, hb']]
    exact e
  have hC : ∀ s, (G wn (k + 3)).cl 11 [v] s = some (.bl b, s) := fun s => by
    obtain ⟨b', e, hb'⟩ := C s
    rw [show b = b' from by rw [Bool.eq_iff_iff, hb, hb']]
    exact e
  have hp : pl 60 (D.tup [.bl a, .bl b]) = true := rfl
  have n := pv_not (pv_call (G := G wn (k + 3)) (f := 7) (es := [(.tup [(.call 3 [(.loc 3), (.loc 5), (.loc 10)]), (.call 1 [(.loc 10)])]), (.tup [(.loc 13), (.call 11 [(.loc 10)])])]) (d := .bl true) (r := en x0 x2 (some (false, dI ls)) x4 (some (false, dW ws)) (some (false, .lst ((rowsOf ws ls).map dI))) x7 x8 x9 (some (false, v)) x11 x12 (some (false, .bl a)) x14 x15 x16)
    (pvs_cons (pv_tup (pvs_cons (pv_call (pvs_cons (pv_loc rfl) (pvs_cons (pv_loc rfl) (pvs_cons (pv_loc rfl) pvs_nil))) hA) (pvs_cons (pv_call (pvs_cons (pv_loc rfl) pvs_nil) hB) pvs_nil))) (pvs_cons (pv_tup (pvs_cons (pv_loc rfl) (pvs_cons (pv_call (pvs_cons (pv_loc rfl) pvs_nil) hC) pvs_nil))) pvs_nil))
    fun s => same_tup (wn := wn) (k := k + 2) (by simp) hp fun x hx s => by
      simp only [List.mem_cons, List.not_mem_nil, or_false] at hx
      rcases hx with rfl | rfl <;> exact same_atom (.inr (.inl ⟨_, rfl⟩))).toPo rfl
  rw [exs_nx (r' := en x0 x2 (some (false, dI ls)) x4 (some (false, dW ws)) (some (false, .lst ((rowsOf ws ls).map dI))) x7 x8 x9 (some (false, v)) x11 x12 (some (false, .bl a)) x14 x15 x16) (s' := s) (by
    rw [ex_fz]
    show ex _ _ _ (en x0 x2 (some (false, dI ls)) x4 (some (false, dW ws)) (some (false, .lst ((rowsOf ws ls).map dI))) x7 x8 x9 (some (false, v)) x11 x12 (some (false, .bl a)) x14 x15 x16) s = _
    rw [n.toPo.eife rfl, if_neg (by decide), exs_nil]), exs_nil]
theorem val_loop (h3 : x3 = some (false, dI ls)) (h5 : x5 = some (false, dW ws)) (h6 : x6 = some (false, .lst ((rowsOf ws ls).map dI))) : ∀ (vs : List D) (x10 x13 : Sl), (∀ v ∈ vs, Sm 4 v) → ∃ x10' x13', forF (foT (G wn (k + 3)) wn (.nm 10) bV) vs (en x0 x2 x3 x4 x5 x6 x7 x8 x9 x10 x11 x12 x13 x14 x15 x16) s = some (.nx (en x0 x2 x3 x4 x5 x6 x7 x8 x9 x10' x11 x12 x13' x14 x15 x16) s)
  | [], x10, x13, _ => ⟨x10, x13, rfl⟩
  | v :: vs, x10, x13, hv => by
    obtain ⟨y, e⟩ := val_turn (wn := wn) (k := k) (x0 := x0) (x2 := x2) (x4 := x4) (x7 := x7) (x8 := x8) (x9 := x9) (x10 := x10) (x11 := x11) (x12 := x12) (x13 := x13) (x14 := x14) (x15 := x15) (x16 := x16) (s := s) (hv v List.mem_cons_self) h3 h5 h6
    obtain ⟨a, b, e2⟩ := val_loop h3 h5 h6 vs (some (false, v)) y fun u hu => hv u (List.mem_cons_of_mem _ hu)
    exact ⟨a, b, by rw [forF, e, Option.bind_some]; exact e2⟩
theorem add_lst {xs ys : List D} (h : xs.length + ys.length ≤ 1000) : binD .add (.lst xs) (.lst ys) = some (.lst (xs ++ ys)) := by
  show (if xs.length + ys.length ≤ szL then some (D.lst (xs ++ ys)) else none) = _
  have : szL = 16777216 := rfl
  rw [if_pos (by omega)]
theorem st_loop {os : List Int} {vs : List D} (hs : TOk s) (hb : Bw ws) (ho : os.length ≤ 4) (ho2 : ∀ t ∈ os, 0 ≤ t ∧ t ≤ 200) (hvl : vs.length ≤ 10) (hvs : ∀ v ∈ vs, Sm 4 v) (h3 : x3 = some (false, dI ls)) (h5 : x5 = some (false, dW ws)) (h6 : x6 = some (false, .lst ((rowsOf ws ls).map dI))) (h8 : x8 = some (false, dI os)) (h9 : x9 = some (false, .lst vs)) :
    ∃ x10' x13' s', ex (G wn (k + 7)) wn (.fz [5] (.for_ (.nm 10) .seq [(.bin .add (.bin .add (.bin .add (.loc 9) (.lst [(.tup [(.tup [(.con (.bl true)), (.con (.int 2))])]), (.con .non), (.tup []), (.con (.int 0))])) (.lc [4] (.nm 4) .rng [(.con (.int 4))] [] (.call 8 [(.loc 1), (.loc 8)]))) (.lc [4] (.nm 4) .rng [(.con (.int 4))] [] (.call 8 [(.loc 1), (.loc 5)])))] bV)) (en x0 x2 x3 x4 x5 x6 x7 x8 x9 x10 x11 x12 x13 x14 x15 x16) s =
      some (.nx (en x0 x2 x3 x4 x5 x6 x7 x8 x9 x10' x11 x12 x13' x14 x15 x16) s') ∧ TOk s' := by
  subst h5 h8 h9
  have l4 : (rngL 0 4).length = 4 := rfl
  have szl : szL = 16777216 := rfl
  obtain ⟨us, s1, e1, _, n1, p1, hs1⟩ := lc_draw (G := G wn (k + 7)) (own := [4]) (t := .nm 4) (k := .rng) (es := [(.con (.int 4))]) (e := (.call 8 [(.loc 1), (.loc 8)])) (r := en x0 x2 x3 x4 (some (false, dW ws)) x6 x7 (some (false, dI os)) (some (false, .lst vs)) x10 x11 x12 x13 x14 x15 x16) (s := s) (P := Sm 4) (evos_one'' (pv_con.o s)) (rng0 (n := 4) (by omega)) hs fun x hx => ⟨_, rfl, fun s hs => by
    obtain ⟨y, s', e, h1, h2⟩ := run_bent (wn := wn) (k := k + 4) (n := 1) (by decide) (in_dI ho ho2) hs
    exact ⟨y, s', (call_v (pvs_cons (pv_loc rfl) (pvs_cons (pv_loc rfl) pvs_nil)) e).1, Sm.up' (by decide) h1, h2⟩⟩
  obtain ⟨ts, s2, e2, _, n2, p2, hs2⟩ := lc_draw (G := G wn (k + 7)) (own := [4]) (t := .nm 4) (k := .rng) (es := [(.con (.int 4))]) (e := (.call 8 [(.loc 1), (.loc 5)])) (r := en x0 x2 x3 x4 (some (false, dW ws)) x6 x7 (some (false, dI os)) (some (false, .lst vs)) x10 x11 x12 x13 x14 x15 x16) (s := s1) (P := Sm 4) (evos_one'' (pv_con.o s1)) (rng0 (n := 4) (by omega)) hs1 fun x hx => ⟨_, rfl, fun s hs => by
    obtain ⟨y, s', e, h1, h2⟩ := run_bent (wn := wn) (k := k + 3) (n := 2) (by decide) (in_dW hb) hs
    exact ⟨y, s', (call_v (pvs_cons (pv_loc rfl) (pvs_cons (pv_loc rfl) pvs_nil)) e).1, Sm.up' (by decide) h1, h2⟩⟩
  rw [l4] at n1 n2
  have ev0 := bin_v (bin_o ((pv_bin (G := G wn (k + 7)) (a := .loc 9) (b := .lst [(.tup [(.tup [(.con (.bl true)), (.con (.int 2))])]), (.con .non), (.tup []), (.con (.int 0))]) (po_loc rfl) (pv_lst (pvs_cons (pv_tup (pvs_cons (pv_tup (pvs_cons pv_con (pvs_cons pv_con pvs_nil))) pvs_nil)) (pvs_cons pv_con (pvs_cons (pv_tup pvs_nil) (pvs_cons pv_con pvs_nil))))).toPo (add_lst (by simp; omega))).o s) e1 (add_lst (by simp; omega))) e2 (add_lst (by simp; omega))
  obtain ⟨a, b, e⟩ := val_loop (wn := wn) (k := k + 4) (ws := ws) (ls := ls) (x0 := x0) (x2 := x2) (x3 := x3) (x4 := x4) (x5 := some (false, dW ws)) (x6 := x6) (x7 := x7) (x8 := some (false, dI os)) (x9 := some (false, .lst vs)) (x11 := x11) (x12 := x12) (x14 := x14) (x15 := x15) (x16 := x16) (s := s2) h3 rfl h6 _ x10 x13 (show ∀ v ∈ vs ++ [D.tup [.tup [.bl true, .int 2]], .non, .tup [], .int 0] ++ us ++ ts, Sm 4 v from fun v hv => by
    rcases List.mem_append.mp hv with hv | hv
    · rcases List.mem_append.mp hv with hv | hv
      · rcases List.mem_append.mp hv with hv | hv
        · exact hvs v hv
        · simp only [List.mem_cons, List.not_mem_nil, or_false] at hv
          rcases hv with rfl | rfl | rfl | rfl
          · refine ⟨by simp, fun x hx => ?_⟩
            rw [List.mem_singleton.mp hx]
            refine ⟨by simp, fun y hy => ?_⟩
            simp only [List.mem_cons, List.not_mem_nil, or_false] at hy
            rcases hy with rfl | rfl <;> trivial
          · trivial
          · exact ⟨by simp, fun x hx => nomatch hx⟩
          · trivial
      · exact p1 v hv
    · exact p2 v hv)
  refine ⟨a, b, s2, ?_, hs2⟩
  rw [ex_fz]
  show ex _ _ _ (en x0 x2 x3 x4 (some (false, dW ws)) x6 x7 (some (false, dI os)) (some (false, .lst vs)) x10 x11 x12 x13 x14 x15 x16) s = _
  exact (efor' (evs_one' ev0) rfl).trans e
end

/-! ### the law -/
section
variable {wn k : Nat}
/-- the slots between the turns -/
def Fr (r : Env) : Prop := ∃ x0 x2 x3 x4 x5 x6 x7 x8 x9 x10 x11 x12 x13 x14 x15 x16 : Sl, r = en x0 x2 x3 x4 x5 x6 x7 x8 x9 x10 x11 x12 x13 x14 x15 x16
abbrev bL : List Ip.S := match u_law with
  | .for_ _ _ _ b :: _ => b
  | _ => []
theorem turn {x : D} {r : Env} {s : T} (hr : Fr r) (hs : TOk s) : ∃ r' s', foT (G wn (k + 7)) wn (.nm 2) bL x r s = some (.nx r' s') ∧ Fr r' ∧ TOk s' := by
  obtain ⟨x0, x2, x3, x4, x5, x6, x7, x8, x9, x10, x11, x12, x13, x14, x15, x16, rfl⟩ := hr
  have t0 : foT (G wn (k + 7)) wn (.nm 2) bL x (en x0 x2 x3 x4 x5 x6 x7 x8 x9 x10 x11 x12 x13 x14 x15 x16) s = exs (G wn (k + 7)) wn bL (en x0 (some (false, x)) x3 x4 x5 x6 x7 x8 x9 x10 x11 x12 x13 x14 x15 x16) s := rfl
  rw [t0]
  obtain ⟨ls, s1, e1, hl, hs1⟩ := st_lens (wn := wn) (k := k + 6) (x0 := x0) (x2 := some (false, x)) (x3 := x3) (x4 := x4) (x5 := x5) (x6 := x6) (x7 := x7) (x8 := x8) (x9 := x9) (x10 := x10) (x11 := x11) (x12 := x12) (x13 := x13) (x14 := x14) (x15 := x15) (x16 := x16) hs
  have e2 : ex (G wn (k + 7)) wn (.par [(5, true), (11, false)] [(.lst []), (.con (.int 0))]) (en x0 (some (false, x)) (some (false, dI ls)) x4 x5 x6 x7 x8 x9 x10 x11 x12 x13 x14 x15 x16) s1 =
      some (.nx (en x0 (some (false, x)) (some (false, dI ls)) x4 (some (true, .lst [])) x6 x7 x8 x9 x10 (some (false, .int 0)) x12 x13 x14 x15 x16) s1) := by
    simp [ev_loc, ev_con, ev_bin, ev_neg, ev_not, ev_and, ev_or, ev_ite, ev_cmp, ev_chain, ev_tup, ev_lst, ev_call, ev_bi, ev_isi, ev_sub, ev_sli, ev_rev, evs_nil, evs_cons, evos_nil, evos_cons, evts_nil, evts_cons, evo_none, evo_some, evV, evL, mk, intO, truD, exs_nil, exs_cons, ex_fz, ex_set, ex_par, ex_tgt, ex_app, ex_ext, ex_exp, ex_ret, ex_ife, ex_brk, ex_cnt, ex_pas, setO, setOs, seqR, ownL, frz, isMut, bindAll, bindT, bindTs, out]
  obtain ⟨n, s2, e3, h0, h1, hs2⟩ := run_draw (wn := wn) (k := k + 6) hs1 (m := 5) (by decide) (by decide)
  obtain ⟨n, rfl⟩ := Int.eq_ofNat_of_zero_le h0
  have szl : szL = 16777216 := rfl
  obtain ⟨ws, at_, x4', x12', s3, e4, hw, hn, hs3⟩ := win_loop (wn := wn) (k := k + 6) (x0 := x0) (x2 := some (false, x)) (x3 := some (false, dI ls)) (x6 := x6) (x7 := x7) (x8 := x8) (x9 := x9) (x10 := x10) (x13 := x13) (x14 := x14) (x15 := x15) (x16 := x16) (rngL 0 n) [] 0 x4 x12 s2 hs2 ⟨List.Pairwise.nil, (fun w hw => nomatch hw), by simp⟩ (by unfold rngL; rw [List.length_map, List.length_range]; simp; omega)
  have e5 : ex (G wn (k + 7)) wn (.for_ (.nm 4) .rng [(.call 6 [(.loc 1), (.con (.int 5))])] bW) (en x0 (some (false, x)) (some (false, dI ls)) x4 (some (true, .lst [])) x6 x7 x8 x9 x10 (some (false, .int 0)) x12 x13 x14 x15 x16) s1 = _ :=
    (efor' (evs_one' (call_v (pvs_cons (pv_loc rfl) (pvs_cons pv_con pvs_nil)) e3).1) (rng0 (n := n) (by omega))).trans e4
  have hb := hw.bw hn
  have e6 : ex (G wn (k + 7)) wn (.set 5 false (.bi .tuple [(.loc 5)])) (en x0 (some (false, x)) (some (false, dI ls)) x4' (some (true, .lst (ws.map dP))) x6 x7 x8 x9 x10 (some (false, .int at_)) x12' x13 x14 x15 x16) s3 =
      some (.nx (en x0 (some (false, x)) (some (false, dI ls)) x4' (some (false, dW ws)) x6 x7 x8 x9 x10 (some (false, .int at_)) x12' x13 x14 x15 x16) s3) := (pv_bi (d := dW ws) (pos_cons (po_loc rfl) pos_nil) rfl).eset
  have e7 : ex (G wn (k + 7)) wn (.fz [5] (.set 6 false (.call 10 [(.loc 3), (.loc 5)]))) (en x0 (some (false, x)) (some (false, dI ls)) x4' (some (false, dW ws)) x6 x7 x8 x9 x10 (some (false, .int at_)) x12' x13 x14 x15 x16) s3 =
      some (.nx (en x0 (some (false, x)) (some (false, dI ls)) x4' (some (false, dW ws)) (some (false, .lst ((rowsOf ws ls).map dI))) x7 x8 x9 x10 (some (false, .int at_)) x12' x13 x14 x15 x16) s3) := by
    rw [ex_fz]
    exact (pv_call (pvs_cons (pv_loc rfl) (pvs_cons (pv_loc rfl) pvs_nil)) fun s => run_all (wn := wn) (k := k + 6) hb hl).eset
  have e8 : ex (G wn (k + 7)) wn (.fz [5] (.set 7 false (.call 2 [(.loc 3), (.loc 5)]))) (en x0 (some (false, x)) (some (false, dI ls)) x4' (some (false, dW ws)) (some (false, .lst ((rowsOf ws ls).map dI))) x7 x8 x9 x10 (some (false, .int at_)) x12' x13 x14 x15 x16) s3 =
      some (.nx (en x0 (some (false, x)) (some (false, dI ls)) x4' (some (false, dW ws)) (some (false, .lst ((rowsOf ws ls).map dI))) (some (false, dO (gr ws 0 ls))) x8 x9 x10 (some (false, .int at_)) x12' x13 x14 x15 x16) s3) := by
    rw [ex_fz]
    exact (pv_call (pvs_cons (pv_loc rfl) (pvs_cons (pv_loc rfl) pvs_nil)) fun s => run_starts (wn := wn) (k := k + 6) (by have := hl.n; omega)).eset
  have e9 := st_same (wn := wn) (k := k + 5) (ws := ws) (ls := ls) (x0 := x0) (x2 := some (false, x)) (x3 := some (false, dI ls)) (x4 := x4') (x5 := some (false, dW ws)) (x6 := some (false, .lst ((rowsOf ws ls).map dI))) (x7 := some (false, dO (gr ws 0 ls))) (x8 := x8) (x9 := x9) (x10 := x10) (x11 := some (false, .int at_)) (x12 := x12') (x13 := x13) (x14 := x14) (x15 := x15) (x16 := x16) (s := s3) hw.asc hl rfl rfl rfl
  have e10 := st_more (wn := wn) (k := k + 5) (ws := ws) (ls := ls) (x0 := x0) (x2 := some (false, x)) (x3 := some (false, dI ls)) (x4 := x4') (x5 := some (false, dW ws)) (x6 := some (false, .lst ((rowsOf ws ls).map dI))) (x7 := some (false, dO (gr ws 0 ls))) (x8 := x8) (x9 := x9) (x10 := x10) (x11 := some (false, .int at_)) (x12 := x12') (x13 := x13) (x14 := x14) (x15 := x15) (x16 := x16) (s := s3) hw hn hl rfl rfl rfl rfl rfl
  obtain ⟨os, s4, e11, ho, ho2, hs4⟩ := st_one (wn := wn) (k := k + 6) (ws := ws) (ls := ls) (x0 := x0) (x2 := some (false, x)) (x3 := some (false, dI ls)) (x4 := x4') (x5 := some (false, dW ws)) (x6 := some (false, .lst ((rowsOf ws ls).map dI))) (x7 := some (false, dO (gr ws 0 ls))) (x8 := x8) (x9 := x9) (x10 := x10) (x11 := some (false, .int at_)) (x12 := x12') (x13 := x13) (x14 := x14) (x15 := x15) (x16 := x16) (s := s3) hb hl hs3 rfl rfl
  obtain ⟨vs, e12, hvl, hvs⟩ := st_vals (wn := wn) (k := k + 7) (ws := ws) (ls := ls) (x0 := x0) (x2 := some (false, x)) (x3 := some (false, dI ls)) (x4 := x4') (x5 := some (false, dW ws)) (x6 := some (false, .lst ((rowsOf ws ls).map dI))) (x7 := some (false, dO (gr ws 0 ls))) (x8 := some (false, dI os)) (x9 := x9) (x10 := x10) (x11 := some (false, .int at_)) (x12 := x12') (x13 := x13) (x14 := x14) (x15 := x15) (x16 := x16) (s := s4) hb hl hw.asc ho rfl rfl rfl
  obtain ⟨a, b, s5, e13, hs5⟩ := st_loop (wn := wn) (k := k) (ws := ws) (ls := ls) (x0 := x0) (x2 := some (false, x)) (x3 := some (false, dI ls)) (x4 := x4') (x5 := some (false, dW ws)) (x6 := some (false, .lst ((rowsOf ws ls).map dI))) (x7 := some (false, dO (gr ws 0 ls))) (x8 := some (false, dI os)) (x9 := some (false, .lst vs)) (x10 := x10) (x11 := some (false, .int at_)) (x12 := x12') (x13 := x13) (x14 := x14) (x15 := x15) (x16 := x16) hs4 hb ho ho2 hvl hvs rfl rfl rfl rfl rfl
  refine ⟨en x0 (some (false, x)) (some (false, dI ls)) x4' (some (false, dW ws)) (some (false, .lst ((rowsOf ws ls).map dI))) (some (false, dO (gr ws 0 ls))) (some (false, dI os)) (some (false, .lst vs)) a (some (false, .int at_)) x12' b x14 x15 x16, s5, ?_, ⟨_, _, _, _, _, _, _, _, _, _, _, _, _, _, _, _, rfl⟩, hs5⟩
  show exs (G wn (k + 7)) wn (_ :: _) _ _ = _
  rw [exs_nx e1, exs_nx e2, exs_nx e5, exs_nx e6, exs_nx e7, exs_nx e8, exs_nx e9, exs_nx e10, exs_nx e11, exs_nx e12, exs_nx e13, exs_nil]
theorem turns : ∀ (xs : List D) (r : Env) (s : T), Fr r → TOk s → ∃ r' s', forF (foT (G wn (k + 7)) wn (.nm 2) bL) xs r s = some (.nx r' s') ∧ Fr r' ∧ TOk s'
  | [], r, s, hr, hs => ⟨r, s, rfl, hr, hs⟩
  | x :: xs, r, s, hr, hs => by
    obtain ⟨r1, s1, e, hr1, hs1⟩ := turn (wn := wn) (k := k) (x := x) hr hs
    obtain ⟨r2, s2, e2, h⟩ := turns xs r1 s1 hr1 hs1
    exact ⟨r2, s2, by rw [forF, e, Option.bind_some]; exact e2, h⟩
end
def LV : Nat := 20
def WN : Nat := 10
theorem law_true (cells : List Int) (b : Int) (_ : cells.length ≤ 63) : ∃ s', out (exs ((tb WN).at LV) WN u_law e_law (cells, [0, b])) = some (.bl true, s') := by
  obtain ⟨r, s, e, _, _⟩ := turns (wn := WN) (k := 13) (rngL 0 6) e_law (cells, [0, b]) ⟨none, none, none, none, none, none, none, none, none, none, none, none, none, none, none, none, rfl⟩ ⟨0, b, rfl⟩
  refine ⟨s, ?_⟩
  show out (exs (G WN (13 + 7)) WN (.for_ (.nm 2) .rng [(.con (.int 6))] bL :: [(.ret (.con (.bl true)))]) e_law (cells, [0, b])) = _
  refine (out_for (k := .rng) (ds := [.int 6]) (pvs_cons pv_con pvs_nil) (rng0 (n := 6) (by decide)) e).trans ?_
  exact aft_ret pv_con
end Law

namespace Law
open PySem PySem.Spec PyProof.Rows L2 Ip
theorem walk {l : PySem.W.OpenLaw} {q : Program} {loose : List Str} {XP : (Str → Option Value) → Heap → Prop} {YP : World → Heap → Prop} {d : DefRec} {K : Params → PySem.W.Frag} {k : Nat} (hn : l.most = some 63) (hdf : d.params.defaults = []) (hr : L2.Room k callerA)
    (hY : ∀ (w : World) (h : Heap), YP w h → (K w.params).In h)
    (F : ∀ (w : World) (mg : Str → Option Value) (fa : Addr) (h : Heap), (K w.params).In h → h.Ns mainGlobals mg → mg d.name = some (.ref fa) →
      ∃ fd : FuncData, (∀ (s : Shared) (u : Value), BindsTo s fd ⟨[u], []⟩ [("script", u)]) ∧ ∀ base : Heap, (K w.params).In base → base.Ns mainGlobals mg → L2.FnOk l.prog w (K w.params) mg base L2.CX0 k fa fd ["script"] (Ip.spLaw (K w.params))) :
    PySem.W.WalkO q loose XP YP l.row.toRowW d [] (fun f vs => PySem.call f vs) :=
  L2.walk_of (n := 63) (k := k) (x := "script") (CX := fun _ => L2.CX0) (sp := fun w => Ip.spLaw (K w.params)) hn (by decide) hdf hr hY F (fun _ _ a ns hl _ hS => ⟨a, ns, rfl, hS, hl, fun _ => rfl⟩) fun _ _ _ _ _ z => z
end Law
open PySem PySem.W PyProof.Rows
set_option maxRecDepth 100000 in
set_option maxHeartbeats 0 in
theorem PySem.Challenge.cw_schemasmoved_k68_whole_windows_holds : PySem.Challenge.rw_schemasmoved_k68_whole_windows.Holds := by
  w_on; o_law; k_head; (case hw => w_witness2)
  k_fill
  refine Law.walk (l := PySem.Challenge.rw_schemasmoved_k68_whole_windows) (k := Law.LV + 3) rfl rfl ⟨rfl, by decide, by decide⟩ (fun w h Y => PySem.W.kIn_of Y) ?F
  case F =>
    intro w mg fa h KX G hmg
    refine' Law.law_fn KX G hmg (Law.hbt_of KX G ?z_len ?z_int ?z_str ?z_all ?z_any ?z_list ?z_tuple ?z_sorted ?z_sum ?z_max ?z_min ?z_isinstance ?z_bool ?z_range ?z_zip ?z_enumerate ?z_dict ?z_set) ?d_is_number ?d_are_windows ?d_starts_in_windows ?d_are_in_windows ?d__law_box ?d__law_load ?d__law_draw ?d__law_same ?d__law_bent ?d__law_whole ?d__law_all ?d__law_are_windows ?d_law Law.LV Law.WN Law.law_true
    (case z_len => k_is)
    (case z_int => k_is)
    (case z_str => k_is)
    (case z_all => k_is)
    (case z_any => k_is)
    (case z_list => k_is)
    (case z_tuple => k_is)
    (case z_sorted => k_is)
    (case z_sum => k_is)
    (case z_max => k_is)
    (case z_min => k_is)
    (case z_isinstance => k_is)
    (case z_bool => k_is)
    (case z_range => k_is)
    (case z_zip => k_is)
    (case z_enumerate => k_is)
    (case z_dict => k_is)
    (case z_set => k_is)
    case d_is_number =>
      refine' Ip.dat_of ?a ?l ?c ?k
      (case a => k_is); (case l => k_is); (case c => k_is); (case k => k_is)
    case d_are_windows =>
      refine' Ip.dat_of ?a ?l ?c ?k
      (case a => k_is); (case l => k_is); (case c => k_is); (case k => k_is)
    case d_starts_in_windows =>
      refine' Ip.dat_of ?a ?l ?c ?k
      (case a => k_is); (case l => k_is); (case c => k_is); (case k => k_is)
    case d_are_in_windows =>
      refine' Ip.dat_of ?a ?l ?c ?k
      (case a => k_is); (case l => k_is); (case c => k_is); (case k => k_is)
    case d__law_box =>
      refine' Ip.dat_of ?a ?l ?c ?k
      (case a => k_is); (case l => k_is); (case c => k_is); (case k => k_is)
    case d__law_load =>
      refine' Ip.dat_of ?a ?l ?c ?k
      (case a => k_is); (case l => k_is); (case c => k_is); (case k => k_is)
    case d__law_draw =>
      refine' Ip.dat_of ?a ?l ?c ?k
      (case a => k_is); (case l => k_is); (case c => k_is); (case k => k_is)
    case d__law_same =>
      refine' Ip.dat_of ?a ?l ?c ?k
      (case a => k_is); (case l => k_is); (case c => k_is); (case k => k_is)
    case d__law_bent =>
      refine' Ip.dat_of ?a ?l ?c ?k
      (case a => k_is); (case l => k_is); (case c => k_is); (case k => k_is)
    case d__law_whole =>
      refine' Ip.dat_of ?a ?l ?c ?k
      (case a => k_is); (case l => k_is); (case c => k_is); (case k => k_is)
    case d__law_all =>
      refine' Ip.dat_of ?a ?l ?c ?k
      (case a => k_is); (case l => k_is); (case c => k_is); (case k => k_is)
    case d__law_are_windows =>
      refine' Ip.dat_of ?a ?l ?c ?k
      (case a => k_is); (case l => k_is); (case c => k_is); (case k => k_is)
    case d_law =>
      refine' Ip.dat_of ?a ?l ?c ?k
      (case a => k_is); (case l => k_is); (case c => k_is); (case k => k_is)
