import PyProof.Rows.All
import Wide.All
import OpenK.AllK
import Wide.FinOn
import HandS.ForMost
import HandS.ForExc
import HandS.Flow
import HandS.TupAny
import HandS.TupMul
import HandS.Wide
import HandS.WideBits
import HandS.IsInst
import HandS.More
import HandS.Replace
import HandS.Zip
import HandS.Deep
import HandS.RaiseMore
import HandS.SortInts
import PySem.Challenge.RW_bytebridge_k84_tokens_of_a_text
set_option Elab.async false
set_option linter.all false
set_option maxRecDepth 100000
set_option maxHeartbeats 4000000
/-! Z0: a core language and its evaluator -/
namespace Z
open PySem L2

/-- what a slot holds: data that never changes; a list of one's own; the law's script -/
inductive O where
  | d (x : PyData) | lst (xs : List PyData) | scr (ns : List Int)
  deriving Inhabited
structure Exn where
  cls : Str
  fs : List (Str × PyData)
abbrev Env := List (Option O)
inductive Res (α : Type) where
  | ok (a : α) (e : Env) | ex (x : Exn) (e : Env) | bad
abbrev M (α : Type) := Env → Res α
def ret {α : Type} (a : α) : M α := fun e => .ok a e
def bad {α : Type} : M α := fun _ => .bad
def bnd {α β : Type} (m : M α) (f : α → M β) : M β := fun e =>
  match m e with
  | .ok a e' => f a e'
  | .ex x e' => .ex x e'
  | .bad => .bad
def opt {α : Type} (o : Option α) : M α := fun e =>
  match o with
  | some a => .ok a e
  | none => .bad
abbrev Fn := Nat → List O → Res O

/-- a value as it is read: a list of one's own is read as the list that it is now -/
def view : O → O
  | .lst xs => .d (.list xs)
  | o => o
def slot (e : Env) (i : Nat) : Option O := (e[i]?).getD none
inductive Tok where
  | v (i : Nat) | o (x : O)
def late : Tok → Env → Option O
  | .v i, e => (slot e i).map view
  | .o x, _ => some x
/-- the name in slot i as a lasting value: a list of one's own is given up -/
def rdF (i : Nat) : M O := fun e =>
  match slot e i with
  | some o => .ok (view o) (e.set i (some (view o)))
  | none => .bad
/-- the name in slot i handed on -/
def mv (i : Nat) : M O := fun e =>
  match slot e i with
  | some o => .ok o (e.set i none)
  | none => .bad
def rdT (i : Nat) : M Tok := fun e =>
  match slot e i with
  | some _ => .ok (.v i) e
  | none => .bad

/-! ### operators -/
def okMul (i j : Int) : Bool := decide (-(2 ^ 64) < i ∧ i < 2 ^ 64) || decide (-(2 ^ 64) < j ∧ j < 2 ^ 64)
def lim (n : Nat) : Bool := decide (n ≤ 16777216)
def binop : Operator → PyData → PyData → Option O
  | .Add, .int i, .int j => some (.d (.int (i + j)))
  | .Add, .str x, .str y => if lim (x.length + y.length) then some (.d (.str (x ++ y))) else none
  | .Add, .list x, .list y => if lim (x.length + y.length) then some (.lst (x ++ y)) else none
  | .Add, .tuple x, .tuple y => if lim (x.length + y.length) then some (.d (.tuple (x ++ y))) else none
  | .Sub, .int i, .int j => some (.d (.int (i - j)))
  | .Mult, .int i, .int j => if okMul i j then some (.d (.int (i * j))) else none
  | .FloorDiv, .int i, .int j => if decide (0 < j) && decide (j.natAbs < 2 ^ 4000) then some (.d (.int (i / j))) else none
  | .Mod, .int i, .int j => if decide (0 < j) then some (.d (.int (i % j))) else none
  | .Pow, .int i, .int j => if decide (0 ≤ j ∧ j ≤ 1000000 ∧ i.natAbs < 2 ^ 64) then some (.d (.int (i ^ j.toNat))) else none
  | .LShift, .int i, .int j => if decide (0 ≤ j ∧ j ≤ 1000000 ∧ i.natAbs < 2 ^ 64) then some (.d (.int (i * 2 ^ j.toNat))) else none
  | .RShift, .int i, .int j => if decide (0 ≤ j) then some (.d (.int (i / 2 ^ j.toNat))) else none
  | .BitAnd, .int i, .int j => some (.d (.int (Builtin.bitAnd i j)))
  | .BitOr, .int i, .int j => some (.d (.int (Builtin.bitOr i j)))
  | .BitXor, .int i, .int j => some (.d (.int (Builtin.bitXor i j)))
  | _, _, _ => none
/-- a thing without objects -/
def flatD : PyData → Bool
  | .none => true
  | .bool _ => true
  | .int _ => true
  | .str _ => true
  | _ => false
def toV : PyData → V
  | .none => .non
  | .bool b => .bl b
  | .int i => .int i
  | .str x => .str x
  | _ => .non
def isNone : PyData → Bool
  | .none => true
  | _ => false
def eqD (x y : PyData) : Option Bool :=
  match x, y with
  | .int i, .int j => some (decide (i = j))
  | .str a, .str b => some (decide (a = b))
  | .bool a, .bool b => some (decide (a = b))
  | x, y => if SeqAt.shaped x && SeqAt.shaped y then some (PyData.eqv x y) else none
def inD (x : PyData) (y : PyData) : Option Bool :=
  match x, y with
  | .str a, .str b => some (!(Builtin.Str.occurrences b a 0 b.length 1).isEmpty)
  | x, .list ys => if flatD x && ys.all flatD then some (inV (toV x) (ys.map toV)) else none
  | x, .tuple ys => if flatD x && ys.all flatD then some (inV (toV x) (ys.map toV)) else none
  | _, _ => none
def cmpop : CmpOp → PyData → PyData → Option Bool
  | .Eq, x, y => eqD x y
  | .NotEq, x, y => (eqD x y).map (!·)
  | .Lt, .int i, .int j => some (decide (i < j))
  | .LtE, .int i, .int j => some (decide (i ≤ j))
  | .Gt, .int i, .int j => some (decide (j < i))
  | .GtE, .int i, .int j => some (decide (j ≤ i))
  | .In, x, y => inD x y
  | .NotIn, x, y => (inD x y).map (!·)
  | .Is, x, .none => some (isNone x)
  | .IsNot, x, .none => some (!isNone x)
  | _, _, _ => none
def truth : O → Option Bool
  | .d .none => some false
  | .d (.bool b) => some b
  | .d (.int i) => some (i != 0)
  | .d (.str x) => if lim x.length then some ((x.length : Int) != 0) else none
  | .d (.list xs) => some (!xs.isEmpty)
  | .d (.tuple xs) => some (!xs.isEmpty)
  | _ => none
def index : PyData → PyData → Option PyData
  | .list xs, .int i => atI xs i
  | .tuple xs, .int i => atI xs i
  | .str x, .int i => if lim x.length then (atI x.cps.toList i).map fun c => .str ⟨#[c]⟩ else none
  | _, _ => none
def cutD (xs : List PyData) (lo hi : Option Int) : List PyData := (xs.drop (HT.sIx xs.length 0 lo)).take (HT.sIx xs.length xs.length hi - HT.sIx xs.length 0 lo)
def slice : PyData → Option Int → Option Int → Option O
  | .list xs, lo, hi => some (.lst (cutD xs lo hi))
  | .tuple xs, lo, hi => some (.d (.tuple (cutD xs lo hi)))
  | .str x, lo, hi => if lim x.length then some (.d (.str (cutS x lo hi))) else none
  | _, _, _ => none
def asInt : O → Option Int
  | .d (.int i) => some i
  | _ => none
def asBool : O → Option Bool
  | .d (.bool i) => some i
  | _ => none
def asD : O → Option PyData
  | .d x => some x
  | _ => none

/-! ### built-in functions, methods -/
inductive Blt where
  | len | abs | int | str | list | tuple | max2 | min2 | max | min | sum | sorted | any | all | repr | isi (T : String)
  deriving DecidableEq
def intsOf : List PyData → Option (List Int)
  | [] => some []
  | .int i :: r => (intsOf r).map (i :: ·)
  | _ :: _ => none
def boolsOf : List PyData → Option (List Bool)
  | [] => some []
  | .bool i :: r => (boolsOf r).map (i :: ·)
  | _ :: _ => none
def strsOf : List PyData → Option (List Str)
  | [] => some []
  | .str i :: r => (strsOf r).map (i :: ·)
  | _ :: _ => none
/-- insertion sort: the ascending arrangement of ints -/
def insI (a : Int) : List Int → List Int
  | [] => [a]
  | b :: r => if a ≤ b then a :: b :: r else b :: insI a r
def sortI : List Int → List Int
  | [] => []
  | a :: r => insI a (sortI r)
def maxOf : Int → List Int → Int
  | m, [] => m
  | m, a :: r => maxOf (if m < a then a else m) r
def minOf : Int → List Int → Int
  | m, [] => m
  | m, a :: r => minOf (if a < m then a else m) r
def typeNameOf : PyData → String
  | .none => "NoneType"
  | .bool _ => "bool"
  | .int _ => "int"
  | .str _ => "str"
  | .list _ => "list"
  | .tuple _ => "tuple"
  | .dict _ => "dict"
/-- the built-in functions on what they are handed -/
def blt : Blt → List O → Option O
  | .len, [.d (.str x)] => if lim x.length then some (.d (.int x.length)) else none
  | .len, [.d (.list xs)] => some (.d (.int xs.length))
  | .len, [.d (.tuple xs)] => some (.d (.int xs.length))
  | .len, [.scr ns] => some (.d (.int ns.length))
  | .abs, [.d (.int i)] => some (.d (.int (if i < 0 then -i else i)))
  | .int, [.d (.int i)] => some (.d (.int i))
  | .int, [.d (.bool b)] => some (.d (.int (if b then 1 else 0)))
  | .int, [.d (.str x)] => if x.length ≤ 640 then (intText? x).map fun n => .d (.int n) else none
  | .str, [.d (.int i)] => if i.natAbs.log2 < 1920 then some (.d (.str (toString i))) else none
  | .list, [.d (.list xs)] => some (.lst xs)
  | .list, [.d (.tuple xs)] => some (.lst xs)
  | .list, [.scr ns] => some (.lst (ns.map .int))
  | .tuple, [.d (.list xs)] => some (.d (.tuple xs))
  | .tuple, [.d (.tuple xs)] => some (.d (.tuple xs))
  | .max2, [.d (.int i), .d (.int j)] => some (.d (.int (if j > i then j else i)))
  | .min2, [.d (.int i), .d (.int j)] => some (.d (.int (if j < i then j else i)))
  | .max, [.d (.list xs)] => match intsOf xs with
    | some (a :: r) => some (.d (.int (maxOf a r)))
    | _ => none
  | .min, [.d (.list xs)] => match intsOf xs with
    | some (a :: r) => some (.d (.int (minOf a r)))
    | _ => none
  | .sum, [.d (.list xs)] => (intsOf xs).map fun ns => .d (.int ns.sum)
  | .sorted, [.d (.list xs)] => (intsOf xs).map fun ns => .lst ((sortI ns).map .int)
  | .any, [.d (.list xs)] => (boolsOf xs).map fun bs => .d (.bool (bs.any id))
  | .all, [.d (.list xs)] => (boolsOf xs).map fun bs => .d (.bool (bs.all id))
  | .repr, [.d x] => if x.showable && !x.hasDict && decide (x.depth < 60) && lim x.shown.length then some (.d (.str x.shown)) else none
  | .isi T, [.d x] => (kitB (typeNameOf x) T).map fun b => .d (.bool b)
  | _, _ => none
inductive Mth where
  | lower | sindex | startswith | endswith | split | join
  deriving DecidableEq
def mth : Mth → PyData → List PyData → Option O
  | .lower, .str a, [] => if a.length ≤ 5592405 then some (.d (.str (Txt.lower a))) else none
  | .sindex, .str a, [.str b] => match Builtin.Str.occurrences a b 0 a.length 1 with
    | i :: _ => some (.d (.int (i : Nat)))
    | [] => none
  | .startswith, .str a, [.str b] => some (.d (.bool (Txt.startswith a b)))
  | .endswith, .str a, [.str b] => some (.d (.bool (Txt.endswith a b)))
  | .split, .str a, [.str b] => if (b.length == 0) = false ∧ a.length + 2 ≤ 16777216 then some (.lst ((Txt.split a b).map .str)) else none
  | .join, .str a, [.list xs] => match strsOf xs with
    | some ys => if (ys.map (·.length)).sum + ys.length * a.length ≤ 16777216 then some (.d (.str (Txt.join a ys))) else none
    | none => none
  | .join, .str a, [.tuple xs] => match strsOf xs with
    | some ys => if (ys.map (·.length)).sum + ys.length * a.length ≤ 16777216 then some (.d (.str (Txt.join a ys))) else none
    | none => none
  | _, _, _ => none
def asStr : PyData → Option Str
  | .str x => some x
  | _ => none
def allD : List O → Option (List PyData)
  | [] => some []
  | .d x :: r => (allD r).map (x :: ·)
  | _ :: _ => none
def mthL (m : Mth) (x : PyData) (os : List O) : Option O := (allD os).bind (mth m x)
/-- the signs of a text -/
def signs (x : Str) : List PyData := x.cps.toList.map fun c => .str ⟨#[c]⟩
/-- what a for walks -/
def itemsOf : O → Option (List PyData)
  | .d (.list xs) => some xs
  | .d (.tuple xs) => some xs
  | .d (.str x) => some (signs x)
  | .scr ns => some (ns.map .int)
  | _ => none
@[irreducible] def okR (i : Int) : Bool := decide (-(2 ^ 62) ≤ i ∧ i < 2 ^ 62)
def rangeD (lo : Int) (n : Nat) : List PyData := (List.range n).map fun k => .int (lo + (k : Nat))
def enumD : Nat → List PyData → List PyData
  | _, [] => []
  | k, x :: r => .tuple [.int k, x] :: enumD (k + 1) r
def zipD : List PyData → List PyData → List PyData
  | x :: r, y :: s => .tuple [x, y] :: zipD r s
  | _, _ => []
inductive Src where
  | seq | rng1 | rng2 | enm | zip
  deriving DecidableEq
def source : Src → List O → Option (List PyData)
  | .seq, [o] => itemsOf o
  | .rng1, [.d (.int j)] => if okR j then some (rangeD 0 j.toNat) else none
  | .rng2, [.d (.int i), .d (.int j)] => if okR i && okR j then some (rangeD i (j - i).toNat) else none
  | .enm, [.d (.list xs)] => some (enumD 0 xs)
  | .zip, [.d (.list xs), .d (.list ys)] => some (zipD xs ys)
  | _, _ => none

mutual
def pdEq : PyData → PyData → Bool
  | .none, .none => true
  | .bool a, .bool b => a == b
  | .int a, .int b => a == b
  | .str a, .str b => decide (a = b)
  | .list a, .list b => pdEqL a b
  | .tuple a, .tuple b => pdEqL a b
  | _, _ => false
def pdEqL : List PyData → List PyData → Bool
  | [], [] => true
  | a :: l, b :: m => pdEq a b && pdEqL l m
  | _, _ => false
end
mutual
theorem pdEq_eq : ∀ {a b : PyData}, pdEq a b = true → a = b
  | .none, b, h => by cases b <;> simp_all [pdEq]
  | .bool a, b, h => by cases b <;> simp_all [pdEq]
  | .int a, b, h => by cases b <;> simp_all [pdEq]
  | .str a, b, h => by cases b <;> simp_all [pdEq]
  | .list a, b, h => by
    cases b with
    | list b => rw [pdEqL_eq (a := a) (b := b) (by simpa [pdEq] using h)]
    | _ => simp [pdEq] at h
  | .tuple a, b, h => by
    cases b with
    | tuple b => rw [pdEqL_eq (a := a) (b := b) (by simpa [pdEq] using h)]
    | _ => simp [pdEq] at h
  | .dict a, b, h => by cases b <;> simp [pdEq] at h
theorem pdEqL_eq : ∀ {a b : List PyData}, pdEqL a b = true → a = b
  | [], b, h => by cases b <;> simp_all [pdEqL]
  | a :: l, b, h => by
    cases b with
    | nil => simp [pdEqL] at h
    | cons b m =>
      simp only [pdEqL, Bool.and_eq_true] at h
      rw [pdEq_eq h.1, pdEqL_eq h.2]
end

/-! ### the core language -/
inductive Tg where
  | nm (i : Nat) | tup (ts : List Tg)
inductive CE where
  | cst (d : PyData)
  | glb (x : Str) (d : PyData)
  | var (i : Nat)
  | mov (i : Nat)
  | tup (es : List CE)
  | lst (es : List CE)
  | bin (op : Operator) (a b : CE)
  | neg (a : CE)
  | not (a : CE)
  | and (es : List CE)
  | or (es : List CE)
  | cmp (op : CmpOp) (a b : CE)
  | chn (op op' : CmpOp) (a b c : CE)
  | ife (c a b : CE)
  | idx (a i : CE)
  | slc (a : CE) (lo hi : Option CE)
  | call (k : Nat) (es : List CE)
  | blt (b : Blt) (es : List CE)
  | mth (m : Mth) (o : CE) (es : List CE)
  | lc (own : List (Str × Nat)) (t : Tg) (s : Src) (es : List CE) (ifs : List CE) (elt : CE)
inductive CS where
  | set (i : Nat) (e : CE)
  | setT (t : Tg) (e : CE)
  | aug (i : Nat) (op : Operator) (e : CE)
  | app (i : Nat) (e : CE)
  | sub (i : Nat) (ix e : CE)
  | ifs (c : CE) (a b : List CS)
  | whl (c : CE) (b : List CS)
  | forr (t : Tg) (s : Src) (es : List CE) (b : List CS)
  | ret (e : CE)
  | retN | brk | cont | pas
  | exp (e : CE)
  | never

/-- the signature: which parameters are lent (they come back changed) -/
abbrev Sig := Nat → List Bool

def tk (c : CE) (m : M O) : M Tok :=
  match c with
  | .var i => rdT i
  | _ => bnd m fun o => ret (.o (view o))
def dat (m : M O) : M PyData := bnd m fun o => opt (asD (view o))
def lates : List Tok → Env → Option (List O)
  | [], _ => some []
  | t :: ts, e => match late t e, lates ts e with
    | some o, some os => some (o :: os)
    | _, _ => none
/-- the tokens as they are now, for f -/
def withT {α : Type} (ts : List Tok) (f : List O → Option α) : M α := fun e =>
  match lates ts e with
  | some os => match f os with
    | some a => .ok a e
    | none => .bad
  | none => .bad
def two (f : PyData → PyData → Option O) : List O → Option O
  | [.d x, .d y] => f x y
  | _ => none
def chkL (xs : List PyData) (o : O) : M O := if lim xs.length then ret o else bad
/-- the lent slots of a call -/
def lentOf : List Tok → List Nat
  | [] => []
  | .v i :: ts => i :: lentOf ts
  | _ :: ts => lentOf ts
def lend : List Tok → Env → Option (List O)
  | [], _ => some []
  | .v i :: ts, e => match slot e i, lend ts e with
    | some o, some os => some (o :: os)
    | _, _ => none
  | .o x :: ts, e => (lend ts e).map (x :: ·)
def back : List Tok → Env → Env → Env
  | .v i :: ts, o :: os, e => back ts os (e.set i o)
  | _ :: ts, _ :: os, e => back ts os e
  | _, _, e => e
def dropL : List Nat → Env → Env
  | [], e => e
  | i :: is, e => (dropL is e).set i none
def callF (F : Fn) (k : Nat) (ts : List Tok) : M O := fun e =>
  if (lentOf ts).Nodup then
    match lend ts e with
    | some os => match F k os with
      | .ok r os' => .ok r (back ts os' (dropL (lentOf ts) e))
      | .ex x os' => .ex x (back ts os' (dropL (lentOf ts) e))
      | .bad => .bad
    | none => .bad
  else .bad
/-- a stored target -/
def asgs (f : Tg → PyData → Env → Option Env) : List Tg → List PyData → Env → Option Env
  | [], [], e => some e
  | t :: ts, x :: xs, e => (f t x e).bind (asgs f ts xs)
  | _, _, _ => none
mutual
def asg : Tg → PyData → Env → Option Env
  | .nm i, x, e => if i < e.length then some (e.set i (some (.d x))) else none
  | .tup ts, .tuple xs, e => asgL ts xs e
  | .tup _, _, _ => none
def asgL : List Tg → List PyData → Env → Option Env
  | [], [], e => some e
  | t :: ts, x :: xs, e => (asg t x e).bind (asgL ts xs)
  | [], _ :: _, _ => none
  | _ :: _, [], _ => none
end
def asgM (t : Tg) (x : PyData) : M Unit := fun e =>
  match asg t x e with
  | some e' => .ok () e'
  | none => .bad
abbrev wipeE (e : Env) (vs : List Nat) : Env := dropL vs e
/-- the slots at vs as they were -/
def restE (e0 e : Env) : List Nat → Env
  | [] => e
  | v :: vs => (restE e0 e vs).set v (slot e0 v)
/-- a comprehension's turns -/
def turns (vs : List Nat) (t : Tg) (test : M Bool) (elt : M PyData) : List PyData → List PyData → M (List PyData)
  | [], acc => ret acc
  | x :: xs, acc => fun e => match bnd (asgM t x) (fun _ => bnd test fun b => if b then bnd elt fun y => ret (some y) else ret none) (wipeE e vs) with
    | .ok (some y) e' => if acc.length < 16777216 then turns vs t test elt xs (acc ++ [y]) e' else .bad
    | .ok none e' => turns vs t test elt xs acc e'
    | _ => .bad
/-- [elt for t in xs if test] -/
def compr (vs : List Nat) (t : Tg) (xs : List PyData) (test : M Bool) (elt : M PyData) : M O := fun e =>
  match turns vs t test elt xs [] e with
  | .ok ys e' => .ok (.lst ys) (restE e e' vs)
  | _ => .bad
def optI (m : Option (M O)) : M (Option Int) :=
  match m with
  | none => ret none
  | some m => bnd m fun o => bnd (opt (asInt o)) fun i => ret (some i)

mutual
def evE (G : Sig) (F : Fn) : CE → M O
  | .cst d => ret (.d d)
  | .glb _ d => ret (.d d)
  | .var i => rdF i
  | .mov i => mv i
  | .tup es => bnd (evDs G F es) fun ds => chkL ds (.d (.tuple ds))
  | .lst es => bnd (evDs G F es) fun ds => chkL ds (.lst ds)
  | .bin op a b => bnd (tk a (evE G F a)) fun x => bnd (tk b (evE G F b)) fun y => withT [x, y] (two (binop op))
  | .neg a => bnd (dat (evE G F a)) fun x => opt (match x with | .int i => some (.d (.int (-i))) | _ => none)
  | .not a => bnd (tk a (evE G F a)) fun x => withT [x] fun | [o] => (truth o).map fun b => .d (.bool (!b)) | _ => none
  | .and es => evAnd G F es
  | .or es => evOr G F es
  | .cmp op a b => bnd (tk a (evE G F a)) fun x => bnd (tk b (evE G F b)) fun y => withT [x, y] (two fun p q => (cmpop op p q).map fun k => .d (.bool k))
  | .chn op op' a b c => bnd (dat (evE G F a)) fun x => bnd (dat (evE G F b)) fun y => bnd (opt (cmpop op x y)) fun k =>
      if k then bnd (dat (evE G F c)) fun z => opt ((cmpop op' y z).map fun k => .d (.bool k)) else ret (.d (.bool false))
  | .ife c a b => bnd (evB G F c) fun k => if k then evE G F a else evE G F b
  | .idx a i => bnd (tk a (evE G F a)) fun x => bnd (tk i (evE G F i)) fun y => withT [x, y] (two fun p q => (index p q).map O.d)
  | .slc a lo hi => bnd (tk a (evE G F a)) fun x => bnd (evO G F lo) fun l => bnd (evO G F hi) fun h => withT [x] fun | [.d p] => slice p l h | _ => none
  | .call k es => bnd (evAs G F (G k) es) fun ts => callF F k ts
  | .blt b es => bnd (evTs G F es) fun ts => withT ts (blt b)
  | .mth m o es => bnd (dat (evE G F o)) fun x => bnd (opt (asStr x)) fun _ => bnd (evTs G F es) fun ts => withT ts (mthL m x)
  | .lc own t s es ifs elt => bnd (evFs G F es) fun os => bnd (opt (source s os)) fun xs => compr (own.map (·.2)) t xs (evBs G F ifs) (dat (evE G F elt))
/-- as a test -/
def evB (G : Sig) (F : Fn) : CE → M Bool
  | .not a => bnd (evB G F a) fun k => ret (!k)
  | .and es => evAndB G F es
  | .or es => evOrB G F es
  | .cst d => opt (truth (.d d))
  | .glb _ d => opt (truth (.d d))
  | .var i => bnd (rdT i) fun t => withT [t] fun | [o] => truth o | _ => none
  | .mov _ => bad
  | .tup _ => bad
  | .lst _ => bad
  | .bin op a b => bnd (bnd (tk a (evE G F a)) fun x => bnd (tk b (evE G F b)) fun y => withT [x, y] (two (binop op))) fun o => opt (truth (view o))
  | .neg a => bad
  | .cmp op a b => bnd (tk a (evE G F a)) fun x => bnd (tk b (evE G F b)) fun y => withT [x, y] fun | [.d p, .d q] => cmpop op p q | _ => none
  | .chn op op' a b c => bnd (dat (evE G F a)) fun x => bnd (dat (evE G F b)) fun y => bnd (opt (cmpop op x y)) fun k =>
      if k then bnd (dat (evE G F c)) fun z => opt (cmpop op' y z) else ret false
  | .ife _ _ _ => bad
  | .idx a i => bnd (bnd (tk a (evE G F a)) fun x => bnd (tk i (evE G F i)) fun y => withT [x, y] (two fun p q => (index p q).map O.d)) fun o => opt (truth (view o))
  | .slc _ _ _ => bad
  | .call k es => bnd (bnd (evAs G F (G k) es) fun ts => callF F k ts) fun o => opt (truth (view o))
  | .blt b es => bnd (bnd (evTs G F es) fun ts => withT ts (blt b)) fun o => opt (truth (view o))
  | .mth m o es => bnd (bnd (dat (evE G F o)) fun x => bnd (opt (asStr x)) fun _ => bnd (evTs G F es) fun ts => withT ts (mthL m x)) fun o => opt (truth (view o))
  | .lc own t s es ifs elt => bnd (bnd (evFs G F es) fun os => bnd (opt (source s os)) fun xs => compr (own.map (·.2)) t xs (evBs G F ifs) (dat (evE G F elt))) fun o => opt (truth (view o))
def evAnd (G : Sig) (F : Fn) : List CE → M O
  | [] => bad
  | [c] => evE G F c
  | c :: d :: cs => bnd (evE G F c) fun x => bnd (opt (asBool x)) fun k => if k then evAnd G F (d :: cs) else ret (.d (.bool false))
def evOr (G : Sig) (F : Fn) : List CE → M O
  | [] => bad
  | [c] => evE G F c
  | c :: d :: cs => bnd (evE G F c) fun x => bnd (opt (asBool x)) fun k => if k then ret (.d (.bool true)) else evOr G F (d :: cs)
def evAndB (G : Sig) (F : Fn) : List CE → M Bool
  | [] => bad
  | [c] => evB G F c
  | c :: d :: cs => bnd (evB G F c) fun k => if k then evAndB G F (d :: cs) else ret false
def evOrB (G : Sig) (F : Fn) : List CE → M Bool
  | [] => bad
  | [c] => evB G F c
  | c :: d :: cs => bnd (evB G F c) fun k => if k then ret true else evOrB G F (d :: cs)
/-- a comprehension's tests -/
def evBs (G : Sig) (F : Fn) : List CE → M Bool
  | [] => ret true
  | [c] => evB G F c
  | _ => bad
def evDs (G : Sig) (F : Fn) : List CE → M (List PyData)
  | [] => ret []
  | c :: cs => bnd (dat (evE G F c)) fun x => bnd (evDs G F cs) fun xs => ret (x :: xs)
def evFs (G : Sig) (F : Fn) : List CE → M (List O)
  | [] => ret []
  | c :: cs => bnd (evE G F c) fun o => bnd (evFs G F cs) fun os => ret (view o :: os)
def evTs (G : Sig) (F : Fn) : List CE → M (List Tok)
  | [] => ret []
  | c :: cs => bnd (tk c (evE G F c)) fun x => bnd (evTs G F cs) fun xs => ret (x :: xs)
def evAs (G : Sig) (F : Fn) : List Bool → List CE → M (List Tok)
  | [], [] => ret []
  | b :: bs, c :: cs => bnd (if b then tk c (evE G F c) else bnd (evE G F c) fun o => ret (.o (view o))) fun x => bnd (evAs G F bs cs) fun xs => ret (x :: xs)
  | _, _ => bad
def evO (G : Sig) (F : Fn) : Option CE → M (Option Int)
  | none => ret none
  | some c => bnd (evE G F c) fun o => bnd (opt (asInt o)) fun i => ret (some i)
end

inductive Fl where
  | nx | bk | ct | rt (o : O)
/-- a for's turns -/
def walkL (t : Tg) (body : M Fl) : List PyData → M Fl
  | [] => ret .nx
  | x :: xs => fun e => match asg t x e with
    | none => .bad
    | some e1 => match body e1 with
      | .ok .nx e' => walkL t body xs e'
      | .ok .ct e' => walkL t body xs e'
      | .ok .bk e' => .ok .nx e'
      | .ok (.rt o) e' => .ok (.rt o) e'
      | .ex x e' => .ex x e'
      | .bad => .bad
/-- a while's turns, n at most -/
def whileN (c : M Bool) (body : M Fl) : Nat → M Fl
  | 0 => bad
  | n + 1 => fun e => match c e with
    | .ok true e1 => match body e1 with
      | .ok .nx e' => whileN c body n e'
      | .ok .ct e' => whileN c body n e'
      | .ok .bk e' => .ok .nx e'
      | .ok (.rt o) e' => .ok (.rt o) e'
      | .ex x e' => .ex x e'
      | .bad => .bad
    | .ok false e1 => .ok .nx e1
    | .ex x e' => .ex x e'
    | .bad => .bad
def turnsMost : Nat := 100000000
/-- name op= e, for what has no object -/
def augop : Operator → PyData → PyData → Option O
  | .Add, .int i, .int j => some (.d (.int (i + j)))
  | .Add, .str x, .str y => if lim (x.length + y.length) then some (.d (.str (x ++ y))) else none
  | .Sub, .int i, .int j => some (.d (.int (i - j)))
  | _, _, _ => none
/-- a list of one's own stands in slot i -/
def ownL (i : Nat) : M Unit := fun e =>
  match slot e i with
  | some (.lst _) => .ok () e
  | _ => .bad
def setS (i : Nat) (o : O) : M Fl := fun e => if i < e.length then .ok .nx (e.set i (some o)) else .bad
def appS (i : Nat) (x : PyData) : M Fl := fun e =>
  match slot e i with
  | some (.lst xs) => if xs.length < 16777216 then .ok .nx (e.set i (some (.lst (xs ++ [x])))) else .bad
  | _ => .bad
def subS (i : Nat) (k : Int) (x : PyData) : M Fl := fun e =>
  match slot e i with
  | some (.lst xs) => match ixN xs.length k with
    | some j => .ok .nx (e.set i (some (.lst (xs.set j x))))
    | none => .bad
  | _ => .bad
mutual
def evS (G : Sig) (F : Fn) : CS → M Fl
  | .set i c => bnd (evE G F c) (setS i)
  | .setT t c => bnd (dat (evE G F c)) fun x => bnd (asgM t x) fun _ => ret .nx
  | .aug i op c => bnd (rdT i) fun x => bnd (tk c (evE G F c)) fun y => bnd (withT [x, y] (two (augop op))) (setS i)
  | .app i c => bnd (ownL i) fun _ => bnd (dat (evE G F c)) (appS i)
  | .sub i ix c => bnd (dat (evE G F c)) fun x => bnd (rdT i) fun _ => bnd (dat (evE G F ix)) fun k => bnd (opt (asInt (.d k))) fun k => subS i k x
  | .ifs c a b => bnd (evB G F c) fun k => if k then evSs G F a else evSs G F b
  | .whl c b => whileN (evB G F c) (evSs G F b) turnsMost
  | .forr t s es b => bnd (evFs G F es) fun os => bnd (opt (source s os)) fun xs => walkL t (evSs G F b) xs
  | .ret c => bnd (evE G F c) fun o => ret (.rt o)
  | .retN => ret (.rt (.d .none))
  | .brk => ret .bk
  | .cont => ret .ct
  | .pas => ret .nx
  | .exp c => bnd (evE G F c) fun _ => ret .nx
  | .never => bad
def evSs (G : Sig) (F : Fn) : List CS → M Fl
  | [] => ret .nx
  | s :: ss => fun e => match evS G F s e with
    | .ok .nx e' => evSs G F ss e'
    | r => r
end

/-- a def: its names by slot, how many are parameters, which of them are lent, its body -/
structure CD where
  name : Str
  N : List Str
  ps : List Str
  io : List Bool
  body : List CS
def keepIo : List Bool → Env → Env
  | b :: bs, o :: e => (if b then o else none) :: keepIo bs e
  | _ :: bs, [] => none :: keepIo bs []
  | [], _ => []
def runD (G : Sig) (F : Fn) (d : CD) (os : List O) : Res O :=
  if os.length = d.ps.length then
    match evSs G F d.body (os.map some ++ List.replicate (d.N.length - os.length) none) with
    | .ok (.rt o) e => .ok o (keepIo d.io e)
    | .ok .nx e => .ok (.d .none) (keepIo d.io e)
    | .ex x e => .ex x (keepIo d.io e)
    | _ => .bad
  else .bad
def run (T : List CD) : Nat → Fn
  | 0 => fun _ _ => .bad
  | n + 1 => fun k os => match T[k]? with
    | some d => runD (fun j => ((T[j]?).map CD.io).getD []) (run T n) d os
    | none => .bad
end Z
/-! Z1: how data, slots and heaps go together -/
namespace Z
open PySem PySem.Spec PyProof.Rows L2
abbrev St := L2.St

mutual
inductive Rp (K : PySem.W.Frag) (HF : Hp) : V → PyData → Prop where
  | non : Rp K HF .non .none
  | bl (b : Bool) : Rp K HF (.bl b) (.bool b)
  | int (i : Int) : Rp K HF (.int i) (.int i)
  | str (x : Str) : Rp K HF (.str x) (.str x)
  | lst {a : Addr} {vs : List V} {ds : List PyData} : HF a = some (.lst vs) → RpL K HF vs ds → Rp K HF (.ref a) (.list ds)
  | tup {a : Addr} {vs : List V} {ds : List PyData} : SqT K HF a vs → RpL K HF vs ds → Rp K HF (.ref a) (.tuple ds)
inductive RpL (K : PySem.W.Frag) (HF : Hp) : List V → List PyData → Prop where
  | nil : RpL K HF [] []
  | cons {v : V} {vs : List V} {d : PyData} {ds : List PyData} : Rp K HF v d → RpL K HF vs ds → RpL K HF (v :: vs) (d :: ds)
end
abbrev Sub (HF H : Hp) : Prop := ∀ a o, HF a = some o → H a = some o
section
variable {K : PySem.W.Frag} {HF HF' H H' : Hp}
theorem seqT_mono (s : Sub HF H) {a : Addr} {vs : List V} (h : SqT K HF a vs) : SqT K H a vs := by
  rcases h with (h | ⟨o, h⟩) | h
  · exact .inl (.inl (s _ _ h))
  · exact .inl (.inr ⟨o, s _ _ h⟩)
  · exact .inr h
theorem seqL_mono (s : Sub HF H) {a : Addr} {vs : List V} (h : SqL K HF a vs) : SqL K H a vs := by
  rcases h with (h | ⟨o, h⟩) | h
  · exact .inl (.inl (s _ _ h))
  · exact .inl (.inr ⟨o, s _ _ h⟩)
  · exact .inr h
mutual
theorem Rp.mono (s : Sub HF H) : ∀ {v : V} {d : PyData}, Rp K HF v d → Rp K H v d
  | _, _, .non => .non
  | _, _, .bl b => .bl b
  | _, _, .int i => .int i
  | _, _, .str x => .str x
  | _, _, .lst h r => .lst (s _ _ h) (RpL.mono s r)
  | _, _, .tup h r => .tup (seqT_mono s h) (RpL.mono s r)
theorem RpL.mono (s : Sub HF H) : ∀ {vs : List V} {ds : List PyData}, RpL K HF vs ds → RpL K H vs ds
  | _, _, .nil => .nil
  | _, _, .cons r t => .cons (Rp.mono s r) (RpL.mono s t)
end
mutual
theorem Rp.dp (s : Sub HF H) : ∀ {v : V} {d : PyData}, Rp K HF v d → Dp K H v d
  | _, _, .non => .non
  | _, _, .bl b => .bl b
  | _, _, .int i => .int i
  | _, _, .str x => .str x
  | _, _, .lst h r => .lst (SqL.of (s _ _ h)) (RpL.dp s r)
  | _, _, .tup h r => .tup (seqT_mono s h) (RpL.dp s r)
theorem RpL.dp (s : Sub HF H) : ∀ {vs : List V} {ds : List PyData}, RpL K HF vs ds → DpAll K H vs ds
  | _, _, .nil => .nil
  | _, _, .cons r t => .cons (Rp.dp s r) (RpL.dp s t)
end
theorem RpL.length : ∀ {vs : List V} {ds : List PyData}, RpL K HF vs ds → vs.length = ds.length
  | _, _, .nil => rfl
  | _, _, .cons _ t => by simp [RpL.length t]
theorem RpL.get : ∀ {vs : List V} {ds : List PyData} {i : Nat} {d : PyData}, RpL K HF vs ds → ds[i]? = some d → ∃ v, vs[i]? = some v ∧ Rp K HF v d
  | _, _, _, _, .nil, e => by simp at e
  | _, _, 0, _, .cons r _, e => by simp at e; subst e; exact ⟨_, rfl, r⟩
  | _, _, i + 1, d, .cons _ t, e => by
    obtain ⟨u, h1, h2⟩ := RpL.get (i := i) (d := d) t (by simpa using e)
    exact ⟨u, by simpa using h1, h2⟩
theorem RpL.getV : ∀ {vs : List V} {ds : List PyData} {i : Nat} {v : V}, RpL K HF vs ds → vs[i]? = some v → ∃ d, ds[i]? = some d ∧ Rp K HF v d
  | _, _, _, _, .nil, e => by simp at e
  | _, _, 0, _, .cons r _, e => by simp at e; subst e; exact ⟨_, rfl, r⟩
  | _, _, i + 1, d, .cons _ t, e => by
    obtain ⟨u, h1, h2⟩ := RpL.getV (i := i) (v := d) t (by simpa using e)
    exact ⟨u, by simpa using h1, h2⟩
theorem RpL.append : ∀ {xs ys : List V} {us ws : List PyData}, RpL K HF xs us → RpL K HF ys ws → RpL K HF (xs ++ ys) (us ++ ws)
  | _, _, _, _, .nil, s => s
  | _, _, _, _, .cons r t, s => .cons r (RpL.append t s)
theorem RpL.take : ∀ {xs : List V} {us : List PyData} (n : Nat), RpL K HF xs us → RpL K HF (xs.take n) (us.take n)
  | _, _, 0, _ => .nil
  | _, _, _ + 1, .nil => .nil
  | _, _, n + 1, .cons r t => .cons r (RpL.take n t)
theorem RpL.drop : ∀ {xs : List V} {us : List PyData} (n : Nat), RpL K HF xs us → RpL K HF (xs.drop n) (us.drop n)
  | _, _, 0, r => r
  | _, _, _ + 1, .nil => .nil
  | _, _, n + 1, .cons _ t => RpL.drop n t
theorem RpL.set {x : V} {u : PyData} (r : Rp K HF x u) : ∀ {xs : List V} {us : List PyData} (i : Nat), RpL K HF xs us → RpL K HF (xs.set i x) (us.set i u)
  | _, _, _, .nil => .nil
  | _, _, 0, .cons _ t => .cons r t
  | _, _, i + 1, .cons q t => .cons q (RpL.set r i t)
theorem RpL.ints : ∀ {vs : List V} {ds : List PyData} {ns : List Int}, RpL K HF vs ds → intsOf ds = some ns → vs = ns.map V.int
  | _, _, ns, .nil, e => by cases e; rfl
  | _, _, ns, .cons (ds := ds) r t, e => by
    cases r with
    | int i =>
      cases q : intsOf ds with
      | none => simp [intsOf, q] at e
      | some l =>
        simp [intsOf, q] at e
        subst e
        simp [RpL.ints t q]
    | _ => simp [intsOf] at e
theorem RpL.bools : ∀ {vs : List V} {ds : List PyData} {ns : List Bool}, RpL K HF vs ds → boolsOf ds = some ns → vs = ns.map V.bl
  | _, _, ns, .nil, e => by cases e; rfl
  | _, _, ns, .cons (ds := ds) r t, e => by
    cases r with
    | bl i =>
      cases q : boolsOf ds with
      | none => simp [boolsOf, q] at e
      | some l =>
        simp [boolsOf, q] at e
        subst e
        simp [RpL.bools t q]
    | _ => simp [boolsOf] at e
theorem RpL.strs : ∀ {vs : List V} {ds : List PyData} {ns : List Str}, RpL K HF vs ds → strsOf ds = some ns → vs = ns.map V.str
  | _, _, ns, .nil, e => by cases e; rfl
  | _, _, ns, .cons (ds := ds) r t, e => by
    cases r with
    | str i =>
      cases q : strsOf ds with
      | none => simp [strsOf, q] at e
      | some l =>
        simp [strsOf, q] at e
        subst e
        simp [RpL.strs t q]
    | _ => simp [strsOf] at e
theorem RpL.of_ints : ∀ {ns : List Int}, RpL K HF (ns.map V.int) (ns.map PyData.int)
  | [] => .nil
  | _ :: _ => .cons (.int _) RpL.of_ints
theorem RpL.of_strs : ∀ {ns : List Str}, RpL K HF (ns.map V.str) (ns.map PyData.str)
  | [] => .nil
  | _ :: _ => .cons (.str _) RpL.of_strs
theorem Rp.flat {v : V} {d : PyData} (r : Rp K HF v d) (f : flatD d = true) : v = toV d ∧ flatV v = true := by
  cases r <;> first | exact ⟨rfl, rfl⟩ | simp [flatD] at f
theorem RpL.flat : ∀ {vs : List V} {ds : List PyData}, RpL K HF vs ds → ds.all flatD = true → vs = ds.map toV ∧ vs.all flatV = true
  | _, _, .nil, _ => ⟨rfl, rfl⟩
  | _, _, .cons r t, f => by
    simp only [List.all_cons, Bool.and_eq_true] at f
    obtain ⟨h1, h2⟩ := r.flat f.1
    obtain ⟨h3, h4⟩ := RpL.flat t f.2
    exact ⟨by simp [h1, h3], by simp [h2, h4]⟩
end

/-- a lasting thing -/
def RO (K : PySem.W.Frag) (HF : Hp) (v : V) : O → Prop
  | .d x => Rp K HF v x
  | .scr ns => ∃ a, v = .ref a ∧ SqL K HF a (ns.map V.int)
  | .lst _ => False
/-- a thing with the addresses that it has for its own -/
def Ow (K : PySem.W.Frag) (HF H : Hp) (v : V) (o : O) (T : Addr → Prop) : Prop :=
  match o with
  | .lst xs => ∃ a vs, v = .ref a ∧ H a = some (.lst vs) ∧ RpL K HF vs xs ∧ ∀ b, T b ↔ b = a
  | o => RO K HF v o ∧ ∀ a, ¬ T a
/-- a thing as it is read now -/
def Vw (K : PySem.W.Frag) (HF H : Hp) (v : V) (o : O) : Prop :=
  match o with
  | .d (.list xs) => ∃ a vs, v = .ref a ∧ H a = some (.lst vs) ∧ RpL K HF vs xs
  | o => RO K HF v o

structure EnvR (K : PySem.W.Frag) (HF H : Hp) (σ : Z.St) (e : Env) (S : Nat → Addr → Prop) : Prop where
  len : e.length = σ.length
  val : ∀ i o, slot e i = some o → ∃ v, σ[i]? = some (some v) ∧ Ow K HF H v o (S i)
  emp : ∀ i, slot e i = none → ∀ a, ¬ S i a
  dis : ∀ i j a, S i a → S j a → i = j
  fre : ∀ i a, S i a → HF a = none
  sub : Sub HF H
def U (S : Nat → Addr → Prop) (a : Addr) : Prop := ∃ i, S i a
structure Stp (A B : Addr → Prop) (HF H HF' H' : Hp) : Prop where
  keep : ∀ a o, H a = some o → ¬ A a → H' a = some o
  grow : Sub HF HF'
  newF : ∀ a o, HF' a = some o → HF a = some o ∨ A a ∨ H a = none
  stay : ∀ a, H' a = none → H a = none
  newS : ∀ a, B a → A a ∨ H a = none
section
variable {K : PySem.W.Frag} {A B C : Addr → Prop} {HF H HF1 H1 HF2 H2 : Hp}
theorem Stp.refl : Stp A A HF H HF H := ⟨fun _ _ h _ => h, fun _ _ h => h, fun _ _ h => .inl h, fun _ h => h, fun _ h => .inl h⟩
theorem Stp.trans (s : Stp A B HF H HF1 H1) (t : Stp B C HF1 H1 HF2 H2) : Stp A C HF H HF2 H2 where
  keep := fun a o h n => t.keep a o (s.keep a o h n) fun b => by
    rcases s.newS a b with q | q
    · exact n q
    · rw [h] at q; cases q
  grow := fun a o h => t.grow a o (s.grow a o h)
  newF := fun a o h => by
    rcases t.newF a o h with q | q | q
    · exact s.newF a o q
    · exact .inr (s.newS a q)
    · exact .inr (.inr (s.stay a q))
  stay := fun a h => s.stay a (t.stay a h)
  newS := fun a h => by
    rcases t.newS a h with q | q
    · exact s.newS a q
    · exact .inr (s.stay a q)
theorem Stp.less {B' : Addr → Prop} (s : Stp A B HF H HF1 H1) (h : ∀ a, B' a → B a) : Stp A B' HF H HF1 H1 := ⟨s.keep, s.grow, s.newF, s.stay, fun a q => s.newS a (h a q)⟩
theorem Stp.more {A' : Addr → Prop} (s : Stp A B HF H HF1 H1) (h : ∀ a, A a → A' a) : Stp A' B HF H HF1 H1 :=
  ⟨fun a o q n => s.keep a o q fun z => n (h a z), s.grow, fun a o q => (s.newF a o q).imp id (Or.imp (h a) id), s.stay, fun a q => (s.newS a q).imp (h a) id⟩
/-- what stands beside -/
theorem Stp.beside {T : Addr → Prop} (s : Stp A B HF H HF1 H1) : Stp (fun a => A a ∨ T a) (fun a => B a ∨ T a) HF H HF1 H1 :=
  ⟨fun a o q n => s.keep a o q fun z => n (.inl z), s.grow, fun a o q => (s.newF a o q).imp id (Or.imp .inl id), s.stay, fun a q => q.elim (fun z => (s.newS a z).imp .inl id) fun z => .inl (.inr z)⟩
/-- a new object, lasting -/
theorem Stp.newD {p : Addr} {o : HO} (hp : H p = none) (sub : Sub HF H) : Stp A A HF H (upd HF p o) (upd H p o) where
  keep := fun a u h _ => by rw [upd_ne (ne_of_none h hp)]; exact h
  grow := fun a u h => by rw [upd_ne (ne_of_none (sub _ _ h) hp)]; exact h
  newF := fun a u h => by
    by_cases e : a = p
    · subst e; exact .inr (.inr hp)
    · rw [upd_ne e] at h; exact .inl h
  stay := fun a h => by
    by_cases e : a = p
    · subst e; exact hp
    · rw [upd_ne e] at h; exact h
  newS := fun a h => .inl h
/-- a new object of one's own -/
theorem Stp.newO {p : Addr} {o : HO} (hp : H p = none) : Stp A (fun a => A a ∨ a = p) HF H HF (upd H p o) where
  keep := fun a u h _ => by rw [upd_ne (ne_of_none h hp)]; exact h
  grow := fun a u h => h
  newF := fun a u h => .inl h
  stay := fun a h => by
    by_cases e : a = p
    · subst e; exact hp
    · rw [upd_ne e] at h; exact h
  newS := fun a h => h.elim .inl fun e => by subst e; exact .inr hp
/-- an object of one's own is written -/
theorem Stp.wr {p : Addr} {o u : HO} (hp : H p = some u) (ha : A p) : Stp A A HF H HF (upd H p o) where
  keep := fun a v h n => by rw [upd_ne (fun e => n (by subst e; exact ha))]; exact h
  grow := fun a u h => h
  newF := fun a u h => .inl h
  stay := fun a h => by
    by_cases e : a = p
    · subst e; rw [upd_same] at h; cases h
    · rw [upd_ne e] at h; exact h
  newS := fun a h => .inl h
/-- an object of one's own is given up: it lasts from now on -/
theorem Stp.frz {p : Addr} {o : HO} (hp : H p = some o) (ha : A p) (n : HF p = none) (hB : ∀ a, B a → A a) : Stp A B HF H (upd HF p o) H where
  keep := fun a v h _ => h
  grow := fun a u h => by rw [upd_ne (ne_of_none h n)]; exact h
  newF := fun a u h => by
    by_cases e : a = p
    · subst e; exact .inr (.inl ha)
    · rw [upd_ne e] at h; exact .inl h
  stay := fun a h => h
  newS := fun a h => .inl (hB a h)
theorem sub_newD {p : Addr} {o : HO} (sub : Sub HF H) : Sub (upd HF p o) (upd H p o) := fun a u h => by
  by_cases e : a = p
  · subst e; rw [upd_same] at h ⊢; exact h
  · rw [upd_ne e] at h ⊢; exact sub _ _ h
theorem sub_newO {p : Addr} {o : HO} (sub : Sub HF H) (n : HF p = none) : Sub HF (upd H p o) := fun a u h => by
  rw [upd_ne (ne_of_none h n)]; exact sub _ _ h
theorem sub_frz {p : Addr} {o : HO} (sub : Sub HF H) (hp : H p = some o) : Sub (upd HF p o) H := fun a u h => by
  by_cases e : a = p
  · subst e; rw [upd_same] at h; rw [← h]; exact hp
  · rw [upd_ne e] at h; exact sub _ _ h
theorem Sub.none (sub : Sub HF H) {p : Addr} (h : H p = none) : HF p = none := by
  cases q : HF p with
  | none => rfl
  | some o => rw [sub _ _ q] at h; cases h
theorem RO.mono {v : V} {o : O} (s : Sub HF HF1) (r : RO K HF v o) : RO K HF1 v o := by
  cases o with
  | d x => exact Rp.mono s r
  | scr ns => obtain ⟨a, e, h⟩ := r; exact ⟨a, e, seqL_mono s h⟩
  | lst xs => exact r.elim
theorem Ow.move {v : V} {o : O} {T : Addr → Prop} (s : Sub HF HF1) (k : ∀ a u, T a → H a = some u → H1 a = some u) (r : Ow K HF H v o T) : Ow K HF1 H1 v o T := by
  cases o with
  | d x => exact ⟨RO.mono s r.1, r.2⟩
  | scr ns => exact ⟨RO.mono s r.1, r.2⟩
  | lst xs =>
    obtain ⟨a, vs, e, h, q, t⟩ := r
    exact ⟨a, vs, e, k _ _ ((t a).mpr rfl) h, RpL.mono s q, t⟩
theorem Ow.vw {v : V} {o : O} {T : Addr → Prop} (sub : Sub HF H) (r : Ow K HF H v o T) : Vw K HF H v (view o) := by
  cases o with
  | d x =>
    obtain ⟨r, _⟩ := r
    cases x with
    | list xs =>
      cases r with
      | lst h q => exact ⟨_, _, rfl, sub _ _ h, q⟩
    | _ => exact r
  | scr ns => exact r.1
  | lst xs =>
    obtain ⟨a, vs, e, h, q, t⟩ := r
    exact ⟨a, vs, e, h, q⟩
theorem RO.vw {v : V} {o : O} (sub : Sub HF H) (r : RO K HF v o) : Vw K HF H v o := by
  cases o with
  | d x =>
    cases x with
    | list xs =>
      cases r with
      | lst h q => exact ⟨_, _, rfl, sub _ _ h, q⟩
    | _ => exact r
  | scr ns => exact r
  | lst xs => exact r.elim
end

section
variable {K : PySem.W.Frag} {HF H HF1 H1 : Hp} {σ : Z.St} {e : Env} {S : Nat → Addr → Prop}
theorem slot_set_same {e : Env} {i : Nat} {o : Option O} (h : i < e.length) : slot (e.set i o) i = o := by
  unfold slot; rw [List.getElem?_set_self h]; rfl
theorem slot_set_ne {e : Env} {i j : Nat} {o : Option O} (h : i ≠ j) : slot (e.set i o) j = slot e j := by
  unfold slot; rw [List.getElem?_set_ne h]
theorem slot_lt {e : Env} {i : Nat} {o : O} (h : slot e i = some o) : i < e.length := by
  unfold slot at h
  by_cases q : i < e.length
  · exact q
  · rw [List.getElem?_eq_none (by omega)] at h; cases h
/-- the slots' own addresses with those of slot i anew -/
def putS (S : Nat → Addr → Prop) (i : Nat) (T : Addr → Prop) : Nat → Addr → Prop := fun j => if j = i then T else S j
theorem putS_same {i : Nat} {T : Addr → Prop} : putS S i T i = T := if_pos rfl
theorem putS_ne {i j : Nat} {T : Addr → Prop} (h : j ≠ i) : putS S i T j = S j := if_neg h
/-- elsewhere the heap may move: what is owned stays -/
theorem EnvR.move (E : EnvR K HF H σ e S) (s : Sub HF HF1) (k : ∀ a u, U S a → H a = some u → H1 a = some u) (f : ∀ a, U S a → HF1 a = none) (sub : Sub HF1 H1) : EnvR K HF1 H1 σ e S :=
  ⟨E.len, fun i o h => let ⟨v, h1, r⟩ := E.val i o h; ⟨v, h1, r.move s fun a u t q => k a u ⟨i, t⟩ q⟩, E.emp, E.dis, fun i a h => f a ⟨i, h⟩, sub⟩
/-- a slot gets a thing (with what it owns) -/
theorem EnvR.put {i : Nat} {v : V} {o : O} {T : Addr → Prop} (E : EnvR K HF H σ e S) (hi : i < e.length) (r : Ow K HF H v o T) (ap : ∀ a, T a → HF a = none ∧ ∀ j, j ≠ i → ¬ S j a) :
    EnvR K HF H (σ.set i (some v)) (e.set i (some o)) (putS S i T) where
  len := by simpa using E.len
  val := fun j p h => by
    by_cases q : j = i
    · subst q
      rw [slot_set_same hi] at h; cases h
      exact ⟨v, List.getElem?_set_self (by rw [← E.len]; exact hi), by rw [putS_same]; exact r⟩
    · rw [slot_set_ne (Ne.symm q)] at h
      obtain ⟨u, h1, h2⟩ := E.val j p h
      exact ⟨u, by rw [List.getElem?_set_ne (Ne.symm q)]; exact h1, by rw [putS_ne q]; exact h2⟩
  emp := fun j h => by
    by_cases q : j = i
    · subst q
      rw [slot_set_same hi] at h; cases h
    · rw [slot_set_ne (Ne.symm q)] at h
      rw [putS_ne q]
      exact E.emp j h
  dis := fun j k a h1 h2 => by
    by_cases q : j = i
    · by_cases q2 : k = i
      · rw [q, q2]
      · rw [q, putS_same] at h1
        rw [putS_ne q2] at h2
        exact ((ap a h1).2 k q2 h2).elim
    · by_cases q2 : k = i
      · rw [putS_ne q] at h1
        rw [q2, putS_same] at h2
        exact ((ap a h2).2 j q h1).elim
      · rw [putS_ne q] at h1
        rw [putS_ne q2] at h2
        exact E.dis j k a h1 h2
  fre := fun j a h => by
    by_cases q : j = i
    · rw [q, putS_same] at h
      exact (ap a h).1
    · rw [putS_ne q] at h
      exact E.fre j a h
  sub := E.sub
/-- a slot's thing is changed where it stands (the name keeps its object) -/
theorem EnvR.chg {i : Nat} {v : V} {o : O} {T : Addr → Prop} (E : EnvR K HF H σ e S) (hv : σ[i]? = some (some v)) (hi : i < e.length) (r : Ow K HF H v o T) (ap : ∀ a, T a → HF a = none ∧ ∀ j, j ≠ i → ¬ S j a) :
    EnvR K HF H σ (e.set i (some o)) (putS S i T) := by
  have q := E.put hi r ap
  have e1 : σ.set i (some v) = σ := by
    apply List.ext_getElem?
    intro j
    by_cases z : j = i
    · subst z
      rw [List.getElem?_set_self (by rw [← E.len]; exact hi), hv]
    · rw [List.getElem?_set_ne (Ne.symm z)]
  rw [e1] at q
  exact q
/-- a slot is forgotten -/
theorem EnvR.drop (i : Nat) (E : EnvR K HF H σ e S) : EnvR K HF H σ (e.set i none) (putS S i fun _ => False) where
  len := by simpa using E.len
  val := fun j p h => by
    by_cases q : j = i
    · subst q
      have hl := slot_lt h
      rw [slot_set_same (by simpa using hl)] at h; cases h
    · rw [slot_set_ne (Ne.symm q)] at h
      obtain ⟨u, h1, h2⟩ := E.val j p h
      exact ⟨u, h1, by rw [putS_ne q]; exact h2⟩
  emp := fun j h => by
    by_cases q : j = i
    · subst q
      rw [putS_same]
      exact fun _ z => z
    · rw [slot_set_ne (Ne.symm q)] at h
      rw [putS_ne q]
      exact E.emp j h
  dis := fun j k a h1 h2 => by
    by_cases q : j = i
    · rw [q, putS_same] at h1; exact h1.elim
    · by_cases q2 : k = i
      · rw [q2, putS_same] at h2; exact h2.elim
      · rw [putS_ne q] at h1
        rw [putS_ne q2] at h2
        exact E.dis j k a h1 h2
  fre := fun j a h => by
    by_cases q : j = i
    · rw [q, putS_same] at h; exact h.elim
    · rw [putS_ne q] at h
      exact E.fre j a h
  sub := E.sub
theorem U_put {i : Nat} {T : Addr → Prop} {a : Addr} (h : U (putS S i T) a) : U S a ∨ T a := by
  obtain ⟨j, h⟩ := h
  by_cases q : j = i
  · rw [q, putS_same] at h; exact .inr h
  · rw [putS_ne q] at h; exact .inl ⟨j, h⟩
theorem U_there (E : EnvR K HF H σ e S) {a : Addr} (h : U S a) : ∃ u, H a = some u := by
  obtain ⟨i, h⟩ := h
  cases q : slot e i with
  | none => exact (E.emp i q a h).elim
  | some o =>
    obtain ⟨v, _, r⟩ := E.val i o q
    cases o with
    | d x => exact (r.2 a h).elim
    | scr x => exact (r.2 a h).elim
    | lst x =>
      obtain ⟨b, vs, _, h2, _, t⟩ := r
      rw [(t a).mp h]
      exact ⟨_, h2⟩
end
end Z
/-! Z2: the operations by values -/
namespace Z
open PySem PySem.Spec PyProof.Rows L2
section
variable {X : Cx}
/-- what an operation hands back, beside all that stands -/
def Gv (K : PySem.W.Frag) (HF H : Hp) (o : O) (Q : VK) : Prop :=
  ∀ v HF' H' T, Stp (fun _ => False) T HF H HF' H' → Sub HF' H' → Ow K HF' H' v o T → (∀ a, T a → HF' a = none) → Q v H'
theorem Gv.d {K : PySem.W.Frag} {HF H : Hp} {Q : VK} {v : V} {x : PyData} (g : Gv K HF H (.d x) Q) (sub : Sub HF H) (r : Rp K HF v x) : Q v H :=
  g v HF H (fun _ => False) Stp.refl sub ⟨r, fun _ z => z⟩ fun _ z => z.elim
theorem Gv.l {K : PySem.W.Frag} {HF H : Hp} {Q : VK} {vs : List V} {xs : List PyData} (g : Gv K HF H (.lst xs) Q) (sub : Sub HF H) (r : RpL K HF vs xs) : ∀ p, H p = none → Q (.ref p) (upd H p (.lst vs)) := fun p hp =>
  g (.ref p) HF (upd H p (.lst vs)) (fun a => a = p) ((Stp.newO hp).less fun a z => .inr z) (sub_newO sub (sub.none hp)) ⟨p, vs, rfl, upd_same, r, fun _ => Iff.rfl⟩ fun a z => by subst z; exact sub.none hp
theorem Gv.t {K : PySem.W.Frag} {HF H : Hp} {Q : VK} {vs : List V} {xs : List PyData} (g : Gv K HF H (.d (.tuple xs)) Q) (sub : Sub HF H) (r : RpL K HF vs xs) : ∀ p, H p = none → Q (.ref p) (upd H p (.tup vs)) := fun p hp =>
  g (.ref p) (upd HF p (.tup vs)) (upd H p (.tup vs)) (fun _ => False) (Stp.newD hp sub) (sub_newD sub) ⟨.tup (.inl (.inl upd_same)) (RpL.mono (Stp.newD (A := fun _ => False) hp sub).grow r), fun _ z => z⟩ fun _ z => z.elim

/-- the weakest readings -/
def rW (X : Cx) (f : Value → Value → Sem Value) : R2 := fun x y H Q => ∀ (pins : List (Addr × Obj)) (s : Shared) (σ : Z.St) (v u : Value), Inv X pins σ H s → RelV x v → RelV y u → wpAny (model X.prog X.w) X.A (f v u) (EP X pins σ Q) X.xe s
theorem rW_ok {f : Value → Value → Sem Value} : OpR X f (rW X f) := fun pins s σ H x y v u Q I rx ry h => h pins s σ v u I rx ry
theorem rW_of {f : Value → Value → Sem Value} {r : R2} (h : OpR X f r) {x y : V} {H : Hp} {Q : VK} (q : r x y H Q) : rW X f x y H Q := fun pins s σ v u I rx ry => h pins s σ H x y v u Q I rx ry q
def cW (X : Cx) (f : Value) : List V → Hp → VK → Prop := fun xs H Q => ∀ (pins : List (Addr × Obj)) (s : Shared) (σ : Z.St) (us : List Value), Inv X pins σ H s → Vals xs us → wpAny (model X.prog X.w) X.A (call f us) (EP X pins σ Q) X.xe s
theorem cW_ok {f : Value} : CallR X f (cW X f) := fun pins s σ H xs us Q I r h => h pins s σ us I r
theorem cW_of {f : Value} {r : List V → Hp → VK → Prop} (h : CallR X f r) {xs : List V} {H : Hp} {Q : VK} (q : r xs H Q) : cW X f xs H Q := fun pins s σ us I rs => h pins s σ H xs us Q I rs q
def mW (X : Cx) (id : String) : V → List V → Hp → VK → Prop := fun x xs H Q => ∀ (pins : List (Addr × Obj)) (s : Shared) (σ : Z.St) (v : Value) (us : List Value), Inv X pins σ H s → RelV x v → Vals xs us →
    wpAny (model X.prog X.w) X.A (call (.builtin id) (v :: us)) (EP X pins σ Q) X.xe s
theorem mW_ok {id : String} : MtR X id (mW X id) := fun pins s σ H x xs v us Q I rx rs h => h pins s σ v us I rx rs
theorem mW_of {id : String} {r : V → List V → Hp → VK → Prop} (h : MtR X id r) {x : V} {xs : List V} {H : Hp} {Q : VK} (q : r x xs H Q) : mW X id x xs H Q := fun pins s σ v us I rx rs => h pins s σ H x xs v us Q I rx rs q

theorem lim_ok {n : Nat} (h : lim n = true) : n ≤ sizeLine := by
  unfold lim at h
  have := of_decide_eq_true h
  rw [sizeLine_eq]; omega
theorem lt_line {n : Nat} (h : n < 16777216) : n < sizeLine := by rw [sizeLine_eq]; omega
theorem le_line {n : Nat} (h : n ≤ 16777216) : n ≤ sizeLine := by rw [sizeLine_eq]; omega
variable {HF H : Hp} {Q : VK} {x y : V}
theorem vw_list {K : PySem.W.Frag} {xs : List PyData} (h : Vw K HF H x (.d (.list xs))) : ∃ a vs, x = .ref a ∧ H a = some (.lst vs) ∧ RpL K HF vs xs := h
theorem vw_tup {K : PySem.W.Frag} {xs : List PyData} (sub : Sub HF H) (h : Vw K HF H x (.d (.tuple xs))) : ∃ a vs, x = .ref a ∧ SqT K H a vs ∧ SqT K HF a vs ∧ RpL K HF vs xs := by
  have h : Rp K HF x (.tuple xs) := h
  cases h with
  | tup h2 r => exact ⟨_, _, rfl, seqT_mono sub h2, h2, r⟩
theorem vw_int {K : PySem.W.Frag} {i : Int} (h : Vw K HF H x (.d (.int i))) : x = .int i := by
  have h : Rp K HF x (.int i) := h
  cases h; rfl
theorem vw_str {K : PySem.W.Frag} {i : Str} (h : Vw K HF H x (.d (.str i))) : x = .str i := by
  have h : Rp K HF x (.str i) := h
  cases h; rfl
theorem vw_bool {K : PySem.W.Frag} {i : Bool} (h : Vw K HF H x (.d (.bool i))) : x = .bl i := by
  have h : Rp K HF x (.bool i) := h
  cases h; rfl
theorem vw_none {K : PySem.W.Frag} (h : Vw K HF H x (.d .none)) : x = .non := by
  have h : Rp K HF x .none := h
  cases h; rfl
theorem okMul_ok {i j : Int} (h : okMul i j = true) : CMul i j := by
  unfold okMul at h
  rcases Bool.or_eq_true_iff.mp h with h | h
  · exact .inl (of_decide_eq_true h)
  · exact .inr (of_decide_eq_true h)
theorem wdiv {j : Int} (h : (decide (0 < j) && decide (j.natAbs < 2 ^ 4000)) = true) (i : Int) : CDivW i j := by
  obtain ⟨h1, h2⟩ := Bool.and_eq_true_iff.mp h
  exact wide_div (of_decide_eq_true h1) (of_decide_eq_true h2) (by decide) (by decide)

theorem binop_ok {op : Operator} {dx dy : PyData} {o : O} (sub : Sub HF H) (vx : Vw X.K HF H x (.d dx)) (vy : Vw X.K HF H y (.d dy)) (h : binop op dx dy = some o) (g : Gv X.K HF H o Q) : rW X (binaryOp op) x y H Q := by
  unfold binop at h
  split at h
  · cases h
    rw [vw_int vx, vw_int vy]
    exact rW_of op_add ⟨_, _, rfl, rfl, g.d sub (.int _)⟩
  · split at h <;> cases h
    rename_i hz
    rw [vw_str vx, vw_str vy]
    exact rW_of op_add_str ⟨_, _, rfl, rfl, lim_ok hz, g.d sub (.str _)⟩
  · split at h <;> cases h
    rename_i hz
    obtain ⟨a, vs, rfl, ha, ra⟩ := vw_list vx
    obtain ⟨b, ws, rfl, hb, rb⟩ := vw_list vy
    exact rW_of op_cat ⟨_, _, _, _, rfl, rfl, ha, hb, by rw [ra.length, rb.length]; exact lim_ok hz, g.l sub (ra.append rb)⟩
  · split at h <;> cases h
    rename_i hz
    obtain ⟨a, vs, rfl, ha, ha', ra⟩ := vw_tup sub vx
    obtain ⟨b, ws, rfl, hb, hb', rb⟩ := vw_tup sub vy
    refine rW_of op_catA ⟨_, _, _, _, rfl, rfl, ha, hb, by rw [ra.length, rb.length]; exact lim_ok hz, fun e => ?_, fun _ e => ?_, fun _ _ => g.t sub (ra.append rb)⟩
    · subst e
      cases ra
      exact g.d sub (.tup hb' rb)
    · subst e
      cases rb
      rw [List.append_nil] at g
      exact g.d sub (.tup ha' ra)
  · cases h
    rw [vw_int vx, vw_int vy]
    exact rW_of op_sub ⟨_, _, rfl, rfl, g.d sub (.int _)⟩
  · split at h <;> cases h
    rename_i hz
    rw [vw_int vx, vw_int vy]
    exact rW_of op_mul ⟨_, _, rfl, rfl, okMul_ok hz, g.d sub (.int _)⟩
  · split at h <;> cases h
    rename_i hz
    rw [vw_int vx, vw_int vy]
    exact rW_of op_fdivW ⟨_, _, rfl, rfl, wdiv hz _, g.d sub (.int _)⟩
  · split at h <;> cases h
    rename_i hz
    rw [vw_int vx, vw_int vy]
    exact rW_of op_mod ⟨_, _, rfl, rfl, of_decide_eq_true hz, g.d sub (.int _)⟩
  · split at h <;> cases h
    rename_i hz
    rw [vw_int vx, vw_int vy]
    exact rW_of op_pow ⟨_, _, rfl, rfl, (by have := of_decide_eq_true hz; exact this), g.d sub (.int _)⟩
  · split at h <;> cases h
    rename_i hz
    rw [vw_int vx, vw_int vy]
    exact rW_of op_shl ⟨_, _, rfl, rfl, (by have := of_decide_eq_true hz; exact this), g.d sub (.int _)⟩
  · split at h <;> cases h
    rename_i hz
    rw [vw_int vx, vw_int vy]
    exact rW_of op_shr ⟨_, _, rfl, rfl, of_decide_eq_true hz, g.d sub (.int _)⟩
  · cases h
    rw [vw_int vx, vw_int vy]
    exact rW_of op_and ⟨_, _, rfl, rfl, g.d sub (.int _)⟩
  · cases h
    rw [vw_int vx, vw_int vy]
    exact rW_of op_or ⟨_, _, rfl, rfl, g.d sub (.int _)⟩
  · cases h
    rw [vw_int vx, vw_int vy]
    exact rW_of op_xor ⟨_, _, rfl, rfl, g.d sub (.int _)⟩
  · cases h

theorem vw_dp {K : PySem.W.Frag} {d : PyData} (sub : Sub HF H) (h : Vw K HF H x (.d d)) : Dp K H x d := by
  cases d with
  | list xs =>
    obtain ⟨a, vs, rfl, ha, r⟩ := vw_list h
    exact .lst (SqL.of ha) (RpL.dp sub r)
  | _ => exact Rp.dp sub h
theorem eqD_ok {dx dy : PyData} {k : Bool} (hu : X.A.units + 64 < cLine) (sub : Sub HF H) (vx : Vw X.K HF H x (.d dx)) (vy : Vw X.K HF H y (.d dy)) (h : eqD dx dy = some k) : (Q (.bl k) H → rW X (compareOp .Eq) x y H Q) ∧ (Q (.bl (!k)) H → rW X (compareOp .NotEq) x y H Q) := by
  unfold eqD at h
  split at h
  · cases h
    rw [vw_int vx, vw_int vy]
    refine ⟨fun q => rW_of op_eq ⟨rfl, ?_⟩, fun q => rW_of op_ne ⟨rfl, ?_⟩⟩
    · rw [dec_int]; rw [← Bool.beq_eq_decide_eq] at q; exact q
    · rw [dec_int]; rw [← Bool.beq_eq_decide_eq] at q; exact q
  · cases h
    rw [vw_str vx, vw_str vy]
    refine ⟨fun q => rW_of op_eq ⟨rfl, ?_⟩, fun q => rW_of op_ne ⟨rfl, ?_⟩⟩
    · rw [dec_str]; rw [← Bool.beq_eq_decide_eq] at q; exact q
    · rw [dec_str]; rw [← Bool.beq_eq_decide_eq] at q; exact q
  · cases h
    rw [vw_bool vx, vw_bool vy]
    refine ⟨fun q => rW_of op_eq ⟨rfl, ?_⟩, fun q => rW_of op_ne ⟨rfl, ?_⟩⟩
    · rw [dec_bl]; rw [← Bool.beq_eq_decide_eq] at q; exact q
    · rw [dec_bl]; rw [← Bool.beq_eq_decide_eq] at q; exact q
  · split at h <;> cases h
    rename_i hz
    obtain ⟨h1, h2⟩ := Bool.and_eq_true_iff.mp hz
    exact ⟨fun q => rW_of (op_eqD hu) ⟨_, _, vw_dp sub vx, vw_dp sub vy, h1, h2, q⟩, fun q => rW_of (op_neD hu) ⟨_, _, vw_dp sub vx, vw_dp sub vy, h1, h2, q⟩⟩
theorem vw_flat {K : PySem.W.Frag} {d : PyData} (h : Vw K HF H x (.d d)) (f : flatD d = true) : x = toV d ∧ flatV x = true := by
  cases d with
  | list xs => cases f
  | none => exact Rp.flat h f
  | bool b => exact Rp.flat h f
  | int b => exact Rp.flat h f
  | str b => exact Rp.flat h f
  | tuple b => cases f
  | dict b => cases f
theorem inD_ok {dx dy : PyData} {k : Bool} (sub : Sub HF H) (vx : Vw X.K HF H x (.d dx)) (vy : Vw X.K HF H y (.d dy)) (h : inD dx dy = some k) : (Q (.bl k) H → rW X (compareOp .In) x y H Q) ∧ (Q (.bl (!k)) H → rW X (compareOp .NotIn) x y H Q) := by
  unfold inD at h
  split at h
  · cases h
    rw [vw_str vx, vw_str vy]
    exact ⟨fun q => rW_of op_in_str ⟨_, _, rfl, rfl, q⟩, fun q => rW_of op_notin_str ⟨_, _, rfl, rfl, q⟩⟩
  · split at h <;> cases h
    rename_i hz
    obtain ⟨h1, h2⟩ := Bool.and_eq_true_iff.mp hz
    obtain ⟨a, vs, rfl, ha, r⟩ := vw_list vy
    obtain ⟨e1, f1⟩ := vw_flat vx h1
    obtain ⟨e2, f2⟩ := r.flat h2
    subst e1 e2
    exact ⟨fun q => rW_of op_in_seq ⟨_, _, rfl, .inl (SqL.of ha), f1, f2, q⟩, fun q => rW_of op_notIn_seq ⟨_, _, rfl, .inl (SqL.of ha), f1, f2, q⟩⟩
  · split at h <;> cases h
    rename_i hz
    obtain ⟨h1, h2⟩ := Bool.and_eq_true_iff.mp hz
    obtain ⟨a, vs, rfl, ha, _, r⟩ := vw_tup sub vy
    obtain ⟨e1, f1⟩ := vw_flat vx h1
    obtain ⟨e2, f2⟩ := r.flat h2
    subst e1 e2
    exact ⟨fun q => rW_of op_in_seq ⟨_, _, rfl, .inr ha, f1, f2, q⟩, fun q => rW_of op_notIn_seq ⟨_, _, rfl, .inr ha, f1, f2, q⟩⟩
  · cases h
theorem isNone_ok {K : PySem.W.Frag} {d : PyData} (h : Vw K HF H x (.d d)) : decide (x = V.non) = isNone d := by
  cases d with
  | list xs =>
    obtain ⟨a, vs, rfl, _⟩ := vw_list h
    rfl
  | none => rw [vw_none h]; rfl
  | bool b => rw [vw_bool h]; rfl
  | int b => rw [vw_int h]; rfl
  | str b => rw [vw_str h]; rfl
  | tuple b =>
    have h : Rp K HF x (.tuple b) := h
    cases h
    rfl
  | dict b =>
    have h : Rp K HF x (.dict b) := h
    cases h
theorem cmpop_ok {op : CmpOp} {dx dy : PyData} {k : Bool} (hu : X.A.units + 64 < cLine) (sub : Sub HF H) (vx : Vw X.K HF H x (.d dx)) (vy : Vw X.K HF H y (.d dy)) (h : cmpop op dx dy = some k) (q : Q (.bl k) H) : rW X (compareOp op) x y H Q := by
  unfold cmpop at h
  split at h
  · exact (eqD_ok hu sub vx vy h).1 q
  · cases e : eqD dx dy with
    | none => rw [e] at h; cases h
    | some b => rw [e] at h; cases h; exact (eqD_ok hu sub vx vy e).2 q
  · cases h
    rw [vw_int vx, vw_int vy]
    exact rW_of op_lt ⟨_, _, rfl, rfl, q⟩
  · cases h
    rw [vw_int vx, vw_int vy]
    exact rW_of op_le ⟨_, _, rfl, rfl, q⟩
  · cases h
    rw [vw_int vx, vw_int vy]
    exact rW_of op_gt ⟨_, _, rfl, rfl, q⟩
  · cases h
    rw [vw_int vx, vw_int vy]
    exact rW_of op_ge ⟨_, _, rfl, rfl, q⟩
  · exact (inD_ok sub vx vy h).1 q
  · cases e : inD dx dy with
    | none => rw [e] at h; cases h
    | some b => rw [e] at h; cases h; exact (inD_ok sub vx vy e).2 q
  · cases h
    rw [vw_none vy]
    exact rW_of op_isN ⟨rfl, by rw [isNone_ok vx]; exact q⟩
  · cases h
    rw [vw_none vy]
    exact rW_of op_notN ⟨rfl, by rw [isNone_ok vx]; exact q⟩
  · cases h
theorem truth_ok {K : PySem.W.Frag} {o : O} {k : Bool} (sub : Sub HF H) (h : Vw K HF H x o) (e : truth o = some k) : TruV K x H k := by
  unfold truth at e
  split at e
  · cases e; rw [vw_none h]; exact rfl
  · cases e; rw [vw_bool h]; exact rfl
  · cases e; rw [vw_int h]; exact rfl
  · split at e <;> cases e
    rename_i hz
    rw [vw_str h]
    exact ⟨lim_ok hz, rfl⟩
  · cases e
    obtain ⟨a, vs, rfl, ha, r⟩ := vw_list h
    refine .inl ⟨vs, SqL.of ha, ?_⟩
    have := r.length
    cases vs <;> cases r <;> rfl
  · cases e
    obtain ⟨a, vs, rfl, ha, _, r⟩ := vw_tup sub h
    refine .inr (.inl ⟨vs, ha, ?_⟩)
    cases vs <;> cases r <;> rfl
  · cases e
theorem atI_rp {K : PySem.W.Frag} {vs : List V} {xs : List PyData} {i : Int} {d : PyData} (r : RpL K HF vs xs) (h : atI xs i = some d) : ∃ v, atI vs i = some v ∧ Rp K HF v d := by
  unfold atI at h ⊢
  rw [r.length]
  cases e : ixN xs.length i with
  | none => rw [e] at h; cases h
  | some j =>
    rw [e] at h
    obtain ⟨v, h1, h2⟩ := r.get (show xs[j]? = some d from h)
    exact ⟨v, h1, h2⟩
theorem index_ok {p q d : PyData} (sub : Sub HF H) (vx : Vw X.K HF H x (.d p)) (vy : Vw X.K HF H y (.d q)) (h : index p q = some d) (g : ∀ v, Rp X.K HF v d → Q v H) : rIx X.K x y H Q := by
  unfold index at h
  split at h
  · obtain ⟨a, vs, rfl, ha, r⟩ := vw_list vx
    rw [vw_int vy]
    obtain ⟨v, h1, h2⟩ := atI_rp r h
    exact .inl ⟨_, _, _, _, rfl, rfl, SqL.of ha, h1, g v h2⟩
  · obtain ⟨a, vs, rfl, ha, _, r⟩ := vw_tup sub vx
    rw [vw_int vy]
    obtain ⟨v, h1, h2⟩ := atI_rp r h
    exact .inr (.inl ⟨_, _, _, _, rfl, rfl, ha, h1, g v h2⟩)
  · split at h
    · rename_i z i hz
      rw [vw_str vx, vw_int vy]
      cases e : atI z.cps.toList i with
      | none => rw [e] at h; cases h
      | some c =>
        rw [e] at h
        cases h
        exact .inr (.inr ⟨_, _, _, rfl, rfl, lim_ok hz, e, g _ (.str _)⟩)
    · cases h
  · cases h
theorem cut_rp {K : PySem.W.Frag} {vs : List V} {xs : List PyData} (r : RpL K HF vs xs) (lo hi : Option Int) : RpL K HF (cutV vs lo hi) (cutD xs lo hi) := by
  unfold cutV cutD
  rw [r.length]
  exact (r.drop _).take _
def rSlAny (K : PySem.W.Frag) : V → Option Int → Option Int → Hp → VK → Prop := fun x lo hi H Q => rSlL K x lo hi H Q ∨ (rSlA K x lo hi H Q ∨ rSlS x lo hi H Q)
theorem sl_any : SlR X (rSlAny X.K) := sl_list.or (sl_tupA.or sl_str)
theorem slice_ok {p : PyData} {lo hi : Option Int} {o : O} (sub : Sub HF H) (vx : Vw X.K HF H x (.d p)) (h : slice p lo hi = some o) (g : Gv X.K HF H o Q) : rSlAny X.K x lo hi H Q := by
  unfold slice at h
  split at h
  · cases h
    obtain ⟨a, vs, rfl, ha, r⟩ := vw_list vx
    exact .inl ⟨_, _, rfl, SqL.of ha, g.l sub (cut_rp r _ _)⟩
  · cases h
    obtain ⟨a, vs, rfl, ha, ha', r⟩ := vw_tup sub vx
    refine .inr (.inl ⟨_, _, rfl, ha, fun e => ?_, fun _ => g.t sub (cut_rp r _ _)⟩)
    have q := cut_rp r lo hi
    have e2 : cutV vs lo hi = vs := by
      unfold cutV
      rw [e.1, e.2, Nat.sub_zero, List.drop_zero, List.take_length]
    rw [e2] at q
    exact g.d sub (.tup ha' q)
  · split at h <;> cases h
    rename_i hz
    rw [vw_str vx]
    exact .inr (.inr ⟨_, rfl, lim_ok hz, g.d sub (.str _)⟩)
  · cases h
end
end Z
/-! Z3: the built-in functions and methods by values -/
namespace Z
open PySem PySem.Spec PyProof.Rows L2
theorem insI_perm (a : Int) : ∀ l, (insI a l).Perm (a :: l)
  | [] => .refl _
  | b :: r => by
    unfold insI
    split
    · exact .refl _
    · exact .trans (.cons b (insI_perm a r)) (.swap a b r)
theorem sortI_perm : ∀ l, (sortI l).Perm l
  | [] => .refl _
  | a :: r => .trans (insI_perm a _) (.cons a (sortI_perm r))
theorem insI_up (a : Int) : ∀ l, l.Pairwise (· ≤ ·) → (insI a l).Pairwise (· ≤ ·)
  | [], _ => by simp [insI]
  | b :: r, h => by
    unfold insI
    obtain ⟨h1, h2⟩ := List.pairwise_cons.mp h
    split
    · rename_i hb
      refine List.pairwise_cons.mpr ⟨fun x hx => ?_, h⟩
      rcases List.mem_cons.mp hx with e | hx
      · rw [e]; exact hb
      · exact Int.le_trans hb (h1 x hx)
    · rename_i hb
      refine List.pairwise_cons.mpr ⟨fun x hx => ?_, insI_up a r h2⟩
      rcases List.mem_cons.mp ((insI_perm a r).mem_iff.mp hx) with e | hx
      · rw [e]; omega
      · exact h1 x hx
theorem sortI_up : ∀ l, (sortI l).Pairwise (· ≤ ·)
  | [] => .nil
  | a :: r => insI_up a _ (sortI_up r)
theorem sort_uniq {a b : List Int} (p : a.Perm b) (ha : a.Pairwise (· ≤ ·)) : a = sortI b :=
  List.Perm.eq_of_pairwise (le := (· ≤ ·)) (fun x y _ _ h1 h2 => Int.le_antisymm h1 h2) ha (sortI_up b) (p.trans (sortI_perm b).symm)
theorem maxOf_mem : ∀ (l : List Int) (m : Int), maxOf m l ∈ m :: l ∧ ∀ y ∈ m :: l, y ≤ maxOf m l
  | [], m => by simp [maxOf]
  | a :: r, m => by
    unfold maxOf
    obtain ⟨h1, h2⟩ := maxOf_mem r (if m < a then a else m)
    refine ⟨?_, fun y hy => ?_⟩
    · rcases List.mem_cons.mp h1 with e | h1
      · rw [e]; split <;> simp
      · exact List.mem_cons_of_mem _ (List.mem_cons_of_mem _ h1)
    · have h3 := h2 _ (List.mem_cons_self ..)
      rcases List.mem_cons.mp hy with e | hy
      · rw [e]; refine Int.le_trans ?_ h3; split <;> omega
      · rcases List.mem_cons.mp hy with e | hy
        · rw [e]; refine Int.le_trans ?_ h3; split <;> omega
        · exact h2 y (List.mem_cons_of_mem _ hy)
theorem minOf_mem : ∀ (l : List Int) (m : Int), minOf m l ∈ m :: l ∧ ∀ y ∈ m :: l, minOf m l ≤ y
  | [], m => by simp [minOf]
  | a :: r, m => by
    unfold minOf
    obtain ⟨h1, h2⟩ := minOf_mem r (if a < m then a else m)
    refine ⟨?_, fun y hy => ?_⟩
    · rcases List.mem_cons.mp h1 with e | h1
      · rw [e]; split <;> simp
      · exact List.mem_cons_of_mem _ (List.mem_cons_of_mem _ h1)
    · have h3 := h2 _ (List.mem_cons_self ..)
      rcases List.mem_cons.mp hy with e | hy
      · rw [e]; refine Int.le_trans h3 ?_; split <;> omega
      · rcases List.mem_cons.mp hy with e | hy
        · rw [e]; refine Int.le_trans h3 ?_; split <;> omega
        · exact h2 y (List.mem_cons_of_mem _ hy)

inductive VwL (K : PySem.W.Frag) (HF H : Hp) : List V → List O → Prop where
  | nil : VwL K HF H [] []
  | cons {v : V} {vs : List V} {o : O} {os : List O} : Vw K HF H v o → VwL K HF H vs os → VwL K HF H (v :: vs) (o :: os)
theorem VwL.one {K : PySem.W.Frag} {HF H : Hp} {vs : List V} {o : O} (h : VwL K HF H vs [o]) : ∃ v, vs = [v] ∧ Vw K HF H v o := by
  cases h with
  | cons a b => cases b; exact ⟨_, rfl, a⟩
theorem VwL.two {K : PySem.W.Frag} {HF H : Hp} {vs : List V} {o p : O} (h : VwL K HF H vs [o, p]) : ∃ v w, vs = [v, w] ∧ Vw K HF H v o ∧ Vw K HF H w p := by
  cases h with
  | cons a b => cases b with
    | cons b c => cases c; exact ⟨_, _, rfl, a, b⟩
def bltV : Blt → Value
  | .len => .builtin "len"
  | .abs => .builtin "abs"
  | .int => .type "int"
  | .str => .type "str"
  | .list => .type "list"
  | .tuple => .type "tuple"
  | .max2 => .builtin "max"
  | .min2 => .builtin "min"
  | .max => .builtin "max"
  | .min => .builtin "min"
  | .sum => .builtin "sum"
  | .sorted => .builtin "sorted"
  | .any => .builtin "any"
  | .all => .builtin "all"
  | .repr => .builtin "repr"
  | .isi _ => .builtin "isinstance"
def bltX : Blt → List V → List V
  | .isi T, vs => vs ++ [.ty T]
  | _, vs => vs
section
variable {X : Cx} {HF H : Hp} {Q : VK}
theorem vw_scr {K : PySem.W.Frag} {v : V} {ns : List Int} (sub : Sub HF H) (h : Vw K HF H v (.scr ns)) : ∃ a, v = .ref a ∧ SqL K H a (ns.map V.int) := by
  obtain ⟨a, e, h⟩ := (show RO K HF v (.scr ns) from h)
  exact ⟨a, e, seqL_mono sub h⟩
theorem vw_ty {K : PySem.W.Frag} {v : V} {d : PyData} (sub : Sub HF H) (h : Vw K HF H v (.d d)) : TyX K H v (.type (typeNameOf d)) := by
  cases d with
  | none => rw [vw_none h]; exact .base .non
  | bool b => rw [vw_bool h]; exact .base (.bl b)
  | int b => rw [vw_int h]; exact .base (.int b)
  | str b => rw [vw_str h]; exact .base (.str b)
  | list b =>
    obtain ⟨a, vs, rfl, ha, _⟩ := vw_list h
    exact .base (.lst ha)
  | tuple b =>
    obtain ⟨a, vs, rfl, ha, _⟩ := vw_tup sub h
    rcases ha with (ha | ⟨o, ha⟩) | ⟨o, its, n, hk, hc, _⟩
    · exact .base (.tup ha)
    · exact .fTuple ha
    · exact .kTuple hk hc
  | dict b =>
    have h : Rp K HF v (.dict b) := h
    cases h
theorem repr_ok {v : V} {d : PyData} (hg : X.A.guards = some []) (hu : X.A.units + 64 < cLine) (sub : Sub HF H) (h : Vw X.K HF H v (.d d)) (hs : d.showable = true) (hd : d.hasDict = false) (hp : d.depth < 60) (hz : d.shown.length ≤ sizeLine)
    (q : Q (.str d.shown) H) : cW X (.builtin "repr") [v] H Q := by
  intro pins s σ us I r
  obtain ⟨u, rfl, ru⟩ := vals1 r
  obtain ⟨as, rd⟩ := Dp.reads I d v u (vw_dp sub h) ru
  have fin : ∀ h' u tk, (∀ b o, s.heap.get? b = some o → h'.get? b = some o) → EP X pins σ Q (.str d.shown u) { s with heap := h', toks := tk } := fun h' u tk k => ⟨.str d.shown, H, I.kept k, ⟨_, rfl⟩, q⟩
  cases d with
  | none =>
    cases rd
    exact PySem.P.repr_of_none (fin s.heap _ _ fun _ _ e => e)
  | bool b =>
    cases rd
    exact PySem.P.repr_of_bool (fin s.heap _ _ fun _ _ e => e)
  | int b =>
    cases rd
    exact PySem.P.repr_of_int (of_decide_eq_true hs) (fin s.heap _ _ fun _ _ e => e)
  | str b =>
    cases rd
    exact PySem.P.repr_of_str (fin s.heap _ _ fun _ _ e => e) hz
  | list b =>
    have q : ∃ a, u = Value.ref a := by cases rd; exact ⟨_, rfl⟩
    obtain ⟨a, rfl⟩ := q
    exact PySem.repr_of_reads' rd hs (fun e => by rw [hd] at e; cases e) hg (by omega) (fun _ _ e => e) fin hz
  | tuple b =>
    have q : ∃ a, u = Value.ref a := by cases rd; exact ⟨_, rfl⟩
    obtain ⟨a, rfl⟩ := q
    exact PySem.repr_of_reads' rd hs (fun e => by rw [hd] at e; cases e) hg (by omega) (fun _ _ e => e) fin hz
  | dict b =>
    cases hd
theorem blt_ok {b : Blt} {vs : List V} {os : List O} {o : O} (hg : b = .repr → X.A.guards = some []) (hc : X.calm = true) (hu : X.A.units + 64 < cLine) (sub : Sub HF H) (vw : VwL X.K HF H vs os) (h : blt b os = some o) (g : Gv X.K HF H o Q) :
    cW X (bltV b) (bltX b vs) H Q := by
  unfold blt at h
  split at h
  · split at h <;> cases h
    rename_i hz
    obtain ⟨v, rfl, v1⟩ := vw.one
    rw [vw_str v1]
    exact cW_of call_len ⟨_, _, rfl, ⟨lim_ok hz, rfl⟩, g.d sub (.int _)⟩
  · cases h
    obtain ⟨v, rfl, v1⟩ := vw.one
    obtain ⟨a, vs, rfl, ha, r⟩ := vw_list v1
    rw [← r.length] at g
    exact cW_of call_len ⟨_, _, rfl, .inl ⟨_, SqL.of ha, rfl⟩, g.d sub (.int _)⟩
  · cases h
    obtain ⟨v, rfl, v1⟩ := vw.one
    obtain ⟨a, vs, rfl, ha, _, r⟩ := vw_tup sub v1
    rw [← r.length] at g
    exact cW_of call_len ⟨_, _, rfl, .inr ⟨_, ha, rfl⟩, g.d sub (.int _)⟩
  · cases h
    obtain ⟨v, rfl, v1⟩ := vw.one
    obtain ⟨a, rfl, ha⟩ := vw_scr sub v1
    exact cW_of call_len ⟨_, _, rfl, .inl ⟨_, ha, (List.length_map ..).symm⟩, g.d sub (.int _)⟩
  · cases h
    obtain ⟨v, rfl, v1⟩ := vw.one
    rw [vw_int v1]
    exact cW_of call_abs ⟨_, rfl, g.d sub (.int _)⟩
  · cases h
    obtain ⟨v, rfl, v1⟩ := vw.one
    rw [vw_int v1]
    exact cW_of call_int1 (.inl ⟨_, rfl, g.d sub (.int _)⟩)
  · cases h
    obtain ⟨v, rfl, v1⟩ := vw.one
    rw [vw_bool v1]
    exact cW_of call_int1 (.inr ⟨_, rfl, g.d sub (.int _)⟩)
  · split at h
    · rename_i x hz
      cases e : intText? x with
      | none => rw [e] at h; cases h
      | some n =>
        rw [e] at h
        cases h
        obtain ⟨v, rfl, v1⟩ := vw.one
        rw [vw_str v1]
        exact cW_of call_int_str ⟨_, _, rfl, e, hz, g.d sub (.int _)⟩
    · cases h
  · split at h <;> cases h
    rename_i hz
    obtain ⟨v, rfl, v1⟩ := vw.one
    rw [vw_int v1]
    exact cW_of call_str_int ⟨_, rfl, hz, g.d sub (.str _)⟩
  · cases h
    obtain ⟨v, rfl, v1⟩ := vw.one
    obtain ⟨a, vs, rfl, ha, r⟩ := vw_list v1
    exact cW_of call_list_of ⟨_, _, rfl, .inl (SqL.of ha), g.l sub r⟩
  · cases h
    obtain ⟨v, rfl, v1⟩ := vw.one
    obtain ⟨a, vs, rfl, ha, _, r⟩ := vw_tup sub v1
    exact cW_of call_list_of ⟨_, _, rfl, .inr ha, g.l sub r⟩
  · cases h
    obtain ⟨v, rfl, v1⟩ := vw.one
    obtain ⟨a, rfl, ha⟩ := vw_scr sub v1
    exact cW_of call_list_of ⟨_, _, rfl, .inl ha, g.l sub RpL.of_ints⟩
  · cases h
    obtain ⟨v, rfl, v1⟩ := vw.one
    obtain ⟨a, vs, rfl, ha, r⟩ := vw_list v1
    exact cW_of call_tuple_of ⟨_, _, rfl, .inl ⟨SqL.of ha, g.t sub r⟩⟩
  · cases h
    obtain ⟨v, rfl, v1⟩ := vw.one
    obtain ⟨a, vs, rfl, ha, ha', r⟩ := vw_tup sub v1
    exact cW_of call_tuple_of ⟨_, _, rfl, .inr ⟨ha, g.d sub (.tup ha' r)⟩⟩
  · cases h
    obtain ⟨v, w, rfl, v1, v2⟩ := vw.two
    rw [vw_int v1, vw_int v2]
    exact cW_of (call_max2 hc) ⟨_, _, rfl, g.d sub (.int _)⟩
  · cases h
    obtain ⟨v, w, rfl, v1, v2⟩ := vw.two
    rw [vw_int v1, vw_int v2]
    exact cW_of (call_min2 hc) ⟨_, _, rfl, g.d sub (.int _)⟩
  · split at h <;> cases h
    rename_i xs a r e
    obtain ⟨v, rfl, v1⟩ := vw.one
    obtain ⟨p, vs, rfl, ha, rr⟩ := vw_list v1
    rw [rr.ints e] at ha
    refine cW_of (cr_max hc) ⟨_, a :: r, rfl, SqL.of ha, Nat.succ_pos _, fun m hm hy => ?_⟩
    obtain ⟨h1, h2⟩ := maxOf_mem r a
    have em : m = maxOf a r := Int.le_antisymm (h2 m hm) (hy _ h1)
    rw [em]
    exact g.d sub (.int _)
  · split at h <;> cases h
    rename_i xs a r e
    obtain ⟨v, rfl, v1⟩ := vw.one
    obtain ⟨p, vs, rfl, ha, rr⟩ := vw_list v1
    rw [rr.ints e] at ha
    refine cW_of (cr_min hc) ⟨_, a :: r, rfl, SqL.of ha, Nat.succ_pos _, fun m hm hy => ?_⟩
    obtain ⟨h1, h2⟩ := minOf_mem r a
    have em : m = minOf a r := Int.le_antisymm (hy _ h1) (h2 m hm)
    rw [em]
    exact g.d sub (.int _)
  · rename_i xs
    cases e : intsOf xs with
    | none => rw [e] at h; cases h
    | some ns =>
      rw [e] at h
      cases h
      obtain ⟨v, rfl, v1⟩ := vw.one
      obtain ⟨p, vs, rfl, ha, rr⟩ := vw_list v1
      rw [rr.ints e] at ha
      exact cW_of (cr_sum hc) ⟨_, ns, rfl, SqL.of ha, g.d sub (.int _)⟩
  · rename_i xs
    cases e : intsOf xs with
    | none => rw [e] at h; cases h
    | some ns =>
      rw [e] at h
      cases h
      obtain ⟨v, rfl, v1⟩ := vw.one
      obtain ⟨p, vs, rfl, ha, rr⟩ := vw_list v1
      rw [rr.ints e] at ha
      refine cW_of cr_sortedI ⟨_, ns, rfl, SqL.of ha, fun ns' l pm up hl => ?_⟩
      rw [sort_uniq pm up]
      exact g.l sub RpL.of_ints l hl
  · rename_i xs
    cases e : boolsOf xs with
    | none => rw [e] at h; cases h
    | some ns =>
      rw [e] at h
      cases h
      obtain ⟨v, rfl, v1⟩ := vw.one
      obtain ⟨p, vs, rfl, ha, rr⟩ := vw_list v1
      rw [rr.bools e] at ha
      exact cW_of (cr_any hc) ⟨_, ns, rfl, SqL.of ha, g.d sub (.bl _)⟩
  · rename_i xs
    cases e : boolsOf xs with
    | none => rw [e] at h; cases h
    | some ns =>
      rw [e] at h
      cases h
      obtain ⟨v, rfl, v1⟩ := vw.one
      obtain ⟨p, vs, rfl, ha, rr⟩ := vw_list v1
      rw [rr.bools e] at ha
      exact cW_of (cr_all hc) ⟨_, ns, rfl, SqL.of ha, g.d sub (.bl _)⟩
  · split at h <;> cases h
    rename_i x hz
    simp only [Bool.and_eq_true] at hz
    obtain ⟨⟨⟨h1, h2⟩, h3⟩, h4⟩ := hz
    obtain ⟨v, rfl, v1⟩ := vw.one
    exact repr_ok (hg rfl) hu sub v1 h1 (by simpa using h2) (of_decide_eq_true h3) (lim_ok h4) (g.d sub (.str _))
  · rename_i T x
    cases e : kitB (typeNameOf x) T with
    | none => rw [e] at h; cases h
    | some b =>
      rw [e] at h
      cases h
      obtain ⟨v, rfl, v1⟩ := vw.one
      exact cW_of call_isi ⟨_, _, _, _, _, rfl, .ty T, vw_ty sub v1, kit_ty e, g.d sub (.bl _)⟩
  · cases h
def mthId : Mth → String
  | .lower => "str.lower"
  | .sindex => "str.index"
  | .startswith => "str.startswith"
  | .endswith => "str.endswith"
  | .split => "str.split"
  | .join => "str.join"
theorem mth_ok {m : Mth} {x : V} {vs : List V} {d : PyData} {ds : List PyData} {o : O} (sub : Sub HF H) (vx : Vw X.K HF H x (.d d)) (vw : VwL X.K HF H vs (ds.map O.d)) (h : mth m d ds = some o) (g : Gv X.K HF H o Q) :
    tyV X.K "str" x H ∧ mW X (mthId m) x vs H Q := by
  unfold mth at h
  split at h
  · split at h <;> cases h
    rename_i hz
    rw [vw_str vx]
    cases vw
    exact ⟨rfl, mW_of mt_lower ⟨_, rfl, rfl, hz, g.d sub (.str _)⟩⟩
  · split at h <;> cases h
    rename_i i r e
    rw [vw_str vx]
    obtain ⟨v, rfl, v1⟩ := vw.one
    rw [vw_str v1]
    exact ⟨rfl, mW_of mt_sindex ⟨_, _, _, _, rfl, rfl, e, g.d sub (.int _)⟩⟩
  · cases h
    rw [vw_str vx]
    obtain ⟨v, rfl, v1⟩ := vw.one
    rw [vw_str v1]
    exact ⟨rfl, mW_of mt_startswith ⟨_, _, rfl, rfl, g.d sub (.bl _)⟩⟩
  · cases h
    rw [vw_str vx]
    obtain ⟨v, rfl, v1⟩ := vw.one
    rw [vw_str v1]
    exact ⟨rfl, mW_of mt_endswith ⟨_, _, rfl, rfl, g.d sub (.bl _)⟩⟩
  · split at h <;> cases h
    rename_i hz
    rw [vw_str vx]
    obtain ⟨v, rfl, v1⟩ := vw.one
    rw [vw_str v1]
    exact ⟨rfl, mW_of mt_split ⟨_, _, rfl, rfl, hz.1, le_line hz.2, g.l sub RpL.of_strs⟩⟩
  · split at h
    · split at h <;> cases h
      rename_i ys e hz
      rw [vw_str vx]
      obtain ⟨v, rfl, v1⟩ := vw.one
      obtain ⟨p, vs, rfl, ha, rr⟩ := vw_list v1
      rw [rr.strs e] at ha
      exact ⟨rfl, mW_of mt_join ⟨_, _, _, rfl, rfl, .inl (SqL.of ha), hz, g.d sub (.str _)⟩⟩
    · cases h
  · split at h
    · split at h <;> cases h
      rename_i ys e hz
      rw [vw_str vx]
      obtain ⟨v, rfl, v1⟩ := vw.one
      obtain ⟨p, vs, rfl, ha, _, rr⟩ := vw_tup sub v1
      rw [rr.strs e] at ha
      exact ⟨rfl, mW_of mt_join ⟨_, _, _, rfl, rfl, .inr ha, hz, g.d sub (.str _)⟩⟩
    · cases h
  · cases h
end
end Z
/-! Z4: judgements of the layer; names, calls -/
namespace Z
open PySem PySem.Spec PyProof.Rows L2

/-- an exception as it stands -/
def ExR (K : PySem.W.Frag) (mg : Str → Option Value) (HF : Hp) (x : Exn) (cls : Value) (d : Option Addr) : Prop :=
  ∃ C, mg x.cls = some (.ref C) ∧ cls = .ref C ∧
    match d with
    | none => x.fs = []
    | some a => ∃ fv : List (Str × V), HF a = some (.xd fv) ∧ fv.map (·.1) = x.fs.map (·.1) ∧ RpL K HF (fv.map (·.2)) (x.fs.map (·.2))
section
variable (X : Cx) (W : WX)
def ExP (HF H : Hp) (σ : Z.St) (S : Nat → Addr → Prop) (x : Exn) (e : Env) : Prop :=
  ∀ cls d HF' H' S', Stp (U S) (U S') HF H HF' H' → EnvR X.K HF' H' σ e S' → ExR X.K X.mg HF' x cls d → W cls d σ H'
/-- what is wanted behind an expression whose value is a thing (perhaps of one's own) -/
def PO (HF H : Hp) (σ : Z.St) (S : Nat → Addr → Prop) (r : Res O) (Q : VK) : Prop :=
  match r with
  | .ok o e => ∀ v HF' H' S' T, Stp (U S) (fun a => U S' a ∨ T a) HF H HF' H' → EnvR X.K HF' H' σ e S' → Ow X.K HF' H' v o T → (∀ a, T a → HF' a = none ∧ ¬ U S' a) → Q v H'
  | .ex x e => ExP X W HF H σ S x e
  | .bad => False
/-- .. whose value lasts -/
def PD {α β : Type} (rel : α → β → Z.St → Hp → Hp → Prop) (HF H : Hp) (σ : Z.St) (S : Nat → Addr → Prop) (r : Res α) (Q : β → Hp → Prop) : Prop :=
  match r with
  | .ok a e => ∀ b HF' H' S', Stp (U S) (U S') HF H HF' H' → EnvR X.K HF' H' σ e S' → rel a b σ HF' H' → Q b H'
  | .ex x e => ExP X W HF H σ S x e
  | .bad => False
def SO (w : Z.St → Hp → VK → Prop) (m : M O) : Prop := ∀ σ e HF H S Q, EnvR X.K HF H σ e S → PO X W HF H σ S (m e) Q → w σ H Q
def SD {α β : Type} (rel : α → β → Z.St → Hp → Hp → Prop) (w : Z.St → Hp → (β → Hp → Prop) → Prop) (m : M α) : Prop :=
  ∀ σ e HF H S Q, EnvR X.K HF H σ e S → PD X W rel HF H σ S (m e) Q → w σ H Q
/-- the weakest readings of syntax -/
def wE (e : Expr) : TE := fun σ H Q => ∀ (pins : List (Addr × Obj)) (s : Shared), Inv X pins σ H s → wpAny (model X.prog X.w) X.A (eval e X.env) (EP X pins σ Q) X.xe s
def wB (e : Expr) : TT := fun σ H Q => ∀ (pins : List (Addr × Obj)) (s : Shared), Inv X pins σ H s → wpAny (model X.prog X.w) X.A (isTrue e X.env (eval e X.env)) (TP X pins σ Q) X.xe s
def wA (es : List Expr) : TA := fun σ H Q => ∀ (pos : Pos) (pins : List (Addr × Obj)) (s : Shared), Inv X pins σ H s → wpAny (model X.prog X.w) X.A (spliced (backTo pos (starEach es X.env))) (AP X pins σ Q) X.xe s
def wPo (e : Option Expr) : TO := fun σ H Q => ∀ (pins : List (Addr × Obj)) (s : Shared), Inv X pins σ H s → wpAny (model X.prog X.w) X.A (evalPart e X.env) (fun u s' => ∃ o H', Inv X pins σ H' s' ∧ IsPart u o ∧ Q o H') X.xe s
def wI (tg iter : Expr) : TI := fun σ H R => ∀ (pins : List (Addr × Obj)) (s : Shared), Inv X pins σ H s →
    wpAny (model X.prog X.w) X.A (eval iter X.env) (fun v s1 => wpAny (model X.prog X.w) X.A (pyIter v) (PIE X pins σ tg R) X.xe s1) X.xe s
end
section
variable {X : Cx} {W : WX} {e : Expr} {es : List Expr} {σ : Z.St} {H HF HF1 H1 : Hp} {S S1 : Nat → Addr → Prop}
theorem pe_W : PE X e (wE X e) := ⟨fun pins s σ H Q I h => h pins s I⟩
theorem pt_W : PT X e (wB X e) := ⟨fun pins s σ H Q I h => h pins s I⟩
theorem pa_W : PA X es (wA X es) := ⟨fun pos pins s σ H Q I h => h pos pins s I⟩
theorem po_W {e : Option Expr} : L2.PO X e (wPo X e) := ⟨fun pins s σ H Q I h => h pins s I⟩
theorem pi_W {tg : Expr} : PI X tg e (wI X tg e) := ⟨fun pins s σ H Q I h => h pins s I⟩
theorem wE_of {t : TE} {Q : VK} (h : PE X e t) (q : t σ H Q) : wE X e σ H Q := fun pins s I => h.run pins s σ H Q I q
theorem wB_of {t : TT} {Q : Bool → Hp → Prop} (h : PT X e t) (q : t σ H Q) : wB X e σ H Q := fun pins s I => h.run pins s σ H Q I q
theorem wA_of {t : TA} {Q : List V → Hp → Prop} (h : PA X es t) (q : t σ H Q) : wA X es σ H Q := fun pos pins s I => h.run pos pins s σ H Q I q
theorem wP_of {e : Option Expr} {t : TO} {Q : Option Int → Hp → Prop} (h : L2.PO X e t) (q : t σ H Q) : wPo X e σ H Q := fun pins s I => h.run pins s σ H Q I q
theorem wI_of {tg : Expr} {t : TI} {R : It → Hp → Prop} (h : PI X tg e t) (q : t σ H R) : wI X tg e σ H R := fun pins s I => h.run pins s σ H R I q

theorem ExP.step {x : Exn} {e : Env} (p : ExP X W HF H σ S x e) (t : Stp (U S) (U S1) HF H HF1 H1) : ExP X W HF1 H1 σ S1 x e := fun cls d HF' H' S' st E r => p cls d HF' H' S' (t.trans st) E r
theorem PO.step {r : Res O} {Q : VK} (p : PO X W HF H σ S r Q) (t : Stp (U S) (U S1) HF H HF1 H1) : PO X W HF1 H1 σ S1 r Q := by
  cases r with
  | ok o e => exact fun v HF' H' S' T st E r ap => p v HF' H' S' T (t.trans st) E r ap
  | ex x e => exact ExP.step p t
  | bad => exact p
theorem PD.step {α β : Type} {rel : α → β → Z.St → Hp → Hp → Prop} {r : Res α} {Q : β → Hp → Prop} (p : PD X W rel HF H σ S r Q) (t : Stp (U S) (U S1) HF H HF1 H1) : PD X W rel HF1 H1 σ S1 r Q := by
  cases r with
  | ok o e => exact fun v HF' H' S' st E r => p v HF' H' S' (t.trans st) E r
  | ex x e => exact ExP.step p t
  | bad => exact p
theorem SD.bndO {α β : Type} {rel : α → β → Z.St → Hp → Hp → Prop} {w : Z.St → Hp → (β → Hp → Prop) → Prop} {m : M α} (h : SD X W rel w m) {f : α → M O} {e : Env} {Q : VK} {R : β → Hp → Prop} (E : EnvR X.K HF H σ e S)
    (P : PO X W HF H σ S (bnd m f e) Q) (k : ∀ a e1, m e = .ok a e1 → ∀ b HF1 H1 S1, Stp (U S) (U S1) HF H HF1 H1 → EnvR X.K HF1 H1 σ e1 S1 → rel a b σ HF1 H1 → PO X W HF1 H1 σ S1 (f a e1) Q → R b H1) : w σ H R := by
  refine h σ e HF H S R E ?_
  unfold bnd at P
  cases hm : m e with
  | ok a e1 =>
    rw [hm] at P
    exact fun b HF1 H1 S1 st E1 r => k a e1 hm b HF1 H1 S1 st E1 r (PO.step P st)
  | ex x e1 => rw [hm] at P; exact P
  | bad => rw [hm] at P; exact P
theorem SD.bndD {α β γ δ : Type} {rel : α → β → Z.St → Hp → Hp → Prop} {rel2 : γ → δ → Z.St → Hp → Hp → Prop} {w : Z.St → Hp → (β → Hp → Prop) → Prop} {m : M α} (h : SD X W rel w m) {f : α → M γ} {e : Env} {Q : δ → Hp → Prop} {R : β → Hp → Prop} (E : EnvR X.K HF H σ e S)
    (P : PD X W rel2 HF H σ S (bnd m f e) Q) (k : ∀ a e1, m e = .ok a e1 → ∀ b HF1 H1 S1, Stp (U S) (U S1) HF H HF1 H1 → EnvR X.K HF1 H1 σ e1 S1 → rel a b σ HF1 H1 → PD X W rel2 HF1 H1 σ S1 (f a e1) Q → R b H1) : w σ H R := by
  refine h σ e HF H S R E ?_
  unfold bnd at P
  cases hm : m e with
  | ok a e1 =>
    rw [hm] at P
    exact fun b HF1 H1 S1 st E1 r => k a e1 hm b HF1 H1 S1 st E1 r (PD.step P st)
  | ex x e1 => rw [hm] at P; exact P
  | bad => rw [hm] at P; exact P

/-! ### relations of results -/
def TokR (K : PySem.W.Frag) (t : Tok) (v : V) (σ : Z.St) (HF _H : Hp) : Prop :=
  match t with
  | .v i => σ[i]? = some (some v)
  | .o x => RO K HF v x
inductive TokL (K : PySem.W.Frag) (σ : Z.St) (HF H : Hp) : List Tok → List V → Prop where
  | nil : TokL K σ HF H [] []
  | cons {t : Tok} {ts : List Tok} {v : V} {vs : List V} : TokR K t v σ HF H → TokL K σ HF H ts vs → TokL K σ HF H (t :: ts) (v :: vs)
def relT (K : PySem.W.Frag) : Tok → V → Z.St → Hp → Hp → Prop := TokR K
def relTs (K : PySem.W.Frag) : List Tok → List V → Z.St → Hp → Hp → Prop := fun ts vs σ HF H => TokL K σ HF H ts vs
def relX (K : PySem.W.Frag) : PyData → V → Z.St → Hp → Hp → Prop := fun d v _ HF _ => Rp K HF v d
def relXs (K : PySem.W.Frag) : List PyData → List V → Z.St → Hp → Hp → Prop := fun ds vs _ HF _ => RpL K HF vs ds
def relB : Bool → Bool → Z.St → Hp → Hp → Prop := fun a b _ _ _ => b = a
def relI : Option Int → Option Int → Z.St → Hp → Hp → Prop := fun a b _ _ _ => b = a
theorem TokR.mono {K : PySem.W.Frag} {t : Tok} {v : V} (s : Sub HF HF1) (r : TokR K t v σ HF H) : TokR K t v σ HF1 H1 := by
  cases t with
  | v i => exact r
  | o x => exact RO.mono s r
theorem TokL.mono {K : PySem.W.Frag} (s : Sub HF HF1) : ∀ {ts : List Tok} {vs : List V}, TokL K σ HF H ts vs → TokL K σ HF1 H1 ts vs
  | _, _, .nil => .nil
  | _, _, .cons r t => .cons (r.mono s) (TokL.mono s t)
theorem late_vw {K : PySem.W.Frag} {e : Env} {t : Tok} {v : V} {o : O} (E : EnvR K HF H σ e S) (r : TokR K t v σ HF H) (h : late t e = some o) : Vw K HF H v o := by
  cases t with
  | v i =>
    have h : (slot e i).map view = some o := h
    cases q : slot e i with
    | none => rw [q] at h; cases h
    | some p =>
      rw [q] at h
      cases h
      obtain ⟨u, h1, h2⟩ := E.val i p q
      have r : σ[i]? = some (some v) := r
      rw [r] at h1
      cases h1
      exact h2.vw E.sub
  | o x =>
    cases h
    exact RO.vw E.sub r
theorem lates_vw {K : PySem.W.Frag} {e : Env} (E : EnvR K HF H σ e S) : ∀ {ts : List Tok} {vs : List V} {os : List O}, TokL K σ HF H ts vs → lates ts e = some os → VwL K HF H vs os
  | _, _, _, .nil, h => by cases h; exact .nil
  | _, _, _, .cons (t := t) (ts := ts) r rs, h => by
    unfold lates at h
    cases h1 : late t e with
    | none => rw [h1] at h; cases h
    | some o =>
      cases h2 : lates ts e with
      | none => rw [h1, h2] at h; cases h
      | some os =>
        rw [h1, h2] at h
        cases h
        exact .cons (late_vw E r h1) (lates_vw E rs h2)

/-! ### giving a thing of one's own up -/
theorem slot_len {e : Env} {i : Nat} {o : Option O} (h : (e.set i o).length = σ.length) : e.length = σ.length := by simpa using h
theorem rdF_ok {i : Nat} {e : Env} {Q : VK} {v : V} (E : EnvR X.K HF H σ e S) (hv : ∀ o, slot e i = some o → σ[i]? = some (some v)) (P : PO X W HF H σ S (rdF i e) Q) : ∃ o, slot e i = some o ∧ Q v H := by
  unfold rdF at P
  cases q : slot e i with
  | none => rw [q] at P; exact P.elim
  | some o =>
    rw [q] at P
    refine ⟨o, rfl, ?_⟩
    have hv := hv o q
    obtain ⟨u, h1, h2⟩ := E.val i o q
    rw [hv] at h1
    cases h1
    have hi := slot_lt q
    cases o with
    | d x =>
      refine P v HF H S (fun _ => False) (Stp.refl.less fun a z => z.elim id False.elim) ?_ ⟨h2.1, fun _ z => z⟩ fun a z => z.elim
      have q2 := E.chg hv hi (o := .d x) (T := S i) h2 fun a z => (h2.2 a z).elim
      have e2 : putS S i (S i) = S := by
        funext j a
        unfold putS
        split
        · rename_i z; rw [z]
        · rfl
      rw [e2] at q2
      exact q2
    | scr x =>
      refine P v HF H S (fun _ => False) (Stp.refl.less fun a z => z.elim id False.elim) ?_ ⟨h2.1, fun _ z => z⟩ fun a z => z.elim
      have q2 := E.chg hv hi (o := .scr x) (T := S i) h2 fun a z => (h2.2 a z).elim
      have e2 : putS S i (S i) = S := by
        funext j a
        unfold putS
        split
        · rename_i z; rw [z]
        · rfl
      rw [e2] at q2
      exact q2
    | lst xs =>
      obtain ⟨a, vs, rfl, ha, r, t⟩ := h2
      have hn := E.fre i a ((t a).mpr rfl)
      have st : Stp (U S) (fun b => U (putS S i fun _ => False) b ∨ False) HF H (upd HF a (.lst vs)) H := Stp.frz ha ⟨i, (t a).mpr rfl⟩ hn fun b z => by
        rcases z with z | z
        · exact (U_put z).elim id False.elim
        · exact z.elim
      have E1 := E.drop i
      have E2 := E1.move (HF1 := upd HF a (.lst vs)) (H1 := H) st.grow (fun _ _ _ h => h) (fun b hb => by
        have ne : b ≠ a := fun z => by
          subst z
          obtain ⟨j, hj⟩ := hb
          by_cases q : j = i
          · rw [q, putS_same] at hj; exact hj
          · rw [putS_ne q] at hj
            exact q (E.dis j i b hj ((t b).mpr rfl))
        rw [upd_ne ne]
        obtain ⟨j, hj⟩ := hb
        exact E1.fre j b hj) (sub_frz E.sub ha)
      have r1 : Rp X.K (upd HF a (.lst vs)) (.ref a) (.list xs) := .lst upd_same (RpL.mono st.grow r)
      have E3 := E2.chg (i := i) (v := .ref a) (o := .d (.list xs)) (T := fun _ => False) hv (by simpa using hi) ⟨r1, fun _ z => z⟩ fun _ z => z.elim
      have ee : (e.set i none).set i (some (O.d (.list xs))) = e.set i (some (O.d (.list xs))) := by simp
      rw [ee] at E3
      refine P (.ref a) _ H _ (fun _ => False) (st.less fun b z => ?_) E3 ⟨r1, fun _ z => z⟩ fun _ z => z.elim
      rcases z with z | z
      · exact .inl ((U_put z).elim id False.elim)
      · exact z.elim
/-- a thing that came is made to last -/
theorem frz_ok {v : V} {o : O} {T : Addr → Prop} {e : Env} (E : EnvR X.K HF1 H1 σ e S1) (st : Stp (U S) (fun a => U S1 a ∨ T a) HF H HF1 H1) (r : Ow X.K HF1 H1 v o T) (ap : ∀ a, T a → HF1 a = none ∧ ¬ U S1 a) :
    ∃ HF2, Stp (U S) (U S1) HF H HF2 H1 ∧ EnvR X.K HF2 H1 σ e S1 ∧ RO X.K HF2 v (view o) := by
  cases o with
  | d x => exact ⟨HF1, st.less fun a z => .inl z, E, r.1⟩
  | scr x => exact ⟨HF1, st.less fun a z => .inl z, E, r.1⟩
  | lst xs =>
    obtain ⟨a, vs, rfl, ha, q, t⟩ := r
    obtain ⟨n1, n2⟩ := ap a ((t a).mpr rfl)
    have s2 : Stp (fun b => U S1 b ∨ T b) (U S1) HF1 H1 (upd HF1 a (.lst vs)) H1 := Stp.frz ha (.inr ((t a).mpr rfl)) n1 fun b z => .inl z
    refine ⟨_, st.trans s2, E.move s2.grow (fun _ _ _ h => h) (fun b hb => ?_) (sub_frz E.sub ha), ?_⟩
    · have ne : b ≠ a := fun z => n2 (by rw [← z]; exact hb)
      rw [upd_ne ne]
      obtain ⟨j, hj⟩ := hb
      exact E.fre j b hj
    · exact .lst upd_same (RpL.mono s2.grow q)
/-- an expression's value as a token -/
theorem tok_of {c : CE} {m : M O} {w : Z.St → Hp → VK → Prop} (hc : ∀ i, c ≠ .var i) (h : SO X W w m) : SD X W (relT X.K) w (tk c m) := by
  intro σ e HF H S Q E P
  have e1 : tk c m = bnd m fun o => ret (.o (view o)) := by
    cases c <;> first | rfl | exact absurd rfl (hc _)
  rw [e1] at P
  refine h σ e HF H S Q E ?_
  unfold bnd at P
  cases hm : m e with
  | bad => rw [hm] at P; exact P
  | ex x e1 => rw [hm] at P; exact P
  | ok o e1 =>
    rw [hm] at P
    intro v HF1 H1 S1 T st E1 r ap
    obtain ⟨HF2, st2, E2, r2⟩ := frz_ok E1 st r ap
    exact P v HF2 H1 S1 st2 E2 r2
/-- .. as data -/
theorem dat_of {m : M O} {w : Z.St → Hp → VK → Prop} (h : SO X W w m) : SD X W (relX X.K) w (dat m) := by
  intro σ e HF H S Q E P
  refine h σ e HF H S Q E ?_
  unfold dat bnd at P
  cases hm : m e with
  | bad => rw [hm] at P; exact P
  | ex x e1 => rw [hm] at P; exact P
  | ok o e1 =>
    rw [hm] at P
    intro v HF1 H1 S1 T st E1 r ap
    obtain ⟨HF2, st2, E2, r2⟩ := frz_ok E1 st r ap
    cases hv : view o with
    | d x =>
      simp only [hv, asD, opt] at P
      rw [hv] at r2
      exact P v HF2 H1 S1 st2 E2 r2
    | scr x => simp only [hv, asD, opt] at P; exact P.elim
    | lst x => simp only [hv, asD, opt] at P; exact P.elim
/-- .. as a lasting thing -/
theorem last_of {m : M O} {w : Z.St → Hp → VK → Prop} (h : SO X W w m) : SD X W (relT X.K) w (bnd m fun o => ret (.o (view o))) := by
  intro σ e HF H S Q E P
  refine h σ e HF H S Q E ?_
  unfold bnd at P
  cases hm : m e with
  | bad => rw [hm] at P; exact P
  | ex x e1 => rw [hm] at P; exact P
  | ok o e1 =>
    rw [hm] at P
    intro v HF1 H1 S1 T st E1 r ap
    obtain ⟨HF2, st2, E2, r2⟩ := frz_ok E1 st r ap
    exact P v HF2 H1 S1 st2 E2 r2

def relR (K : PySem.W.Frag) : O → V → Z.St → Hp → Hp → Prop := fun o v _ HF _ => RO K HF v o
theorem las_of {m : M O} {w : Z.St → Hp → VK → Prop} (h : SO X W w m) : SD X W (relR X.K) w (bnd m fun o => ret (view o)) := by
  intro σ e HF H S Q E P
  refine h σ e HF H S Q E ?_
  unfold bnd at P
  cases hm : m e with
  | bad => rw [hm] at P; exact P
  | ex x e1 => rw [hm] at P; exact P
  | ok o e1 =>
    rw [hm] at P
    intro v HF1 H1 S1 T st E1 r ap
    obtain ⟨HF2, st2, E2, r2⟩ := frz_ok E1 st r ap
    exact P v HF2 H1 S1 st2 E2 r2
theorem bnd_assoc {α β γ : Type} (m : M α) (f : α → M β) (g : β → M γ) : bnd (bnd m f) g = bnd m fun a => bnd (f a) g := by
  funext e
  unfold bnd
  cases m e <;> rfl

/-- what an operation gives, from what is wanted -/
theorem gv_of {e : Env} {o : O} {Q : VK} (E : EnvR X.K HF H σ e S) (P : PO X W HF H σ S (.ok o e) Q) : Gv X.K HF H o Q := fun v HF' H' T st sub r ap => by
  have hU : ∀ a, U S a → ¬ T a := fun a h z => by
    obtain ⟨u, hu⟩ := U_there E h
    rcases st.newS a z with q | q
    · exact q
    · rw [q] at hu; cases hu
  have s2 : Stp (U S) (fun a => U S a ∨ T a) HF H HF' H' := (st.beside (T := U S)).more (fun a z => z.elim False.elim id) |>.less fun a z => z.elim .inr .inl
  refine P v HF' H' S T s2 (E.move st.grow (fun a u _ h => st.keep a u h id) (fun a h => ?_) sub) r fun a z => ⟨ap a z, fun q => hU a q z⟩
  obtain ⟨i, hi⟩ := h
  cases q : HF' a with
  | none => rfl
  | some u =>
    rcases st.newF a u q with z | z | z
    · rw [E.fre i a hi] at z; cases z
    · exact z.elim
    · obtain ⟨u, hu⟩ := U_there E ⟨i, hi⟩
      rw [hu] at z; cases z
end
end Z
/-! Z5: calls -/
namespace Z
open PySem PySem.Spec PyProof.Rows L2
/-- what a def promises: it does as f says -/
def spF (K : PySem.W.Frag) (mg : Str → Option Value) (f : List O → Res O) : Sp := fun vs H Q E =>
  ∃ (HF : Hp) (os : List O) (S : Nat → Addr → Prop), EnvR K HF H (vs.map some) (os.map some) S ∧
    match f os with
    | .bad => False
    | .ok r e => ∀ v HF' H' S' T, Stp (U S) (fun a => U S' a ∨ T a) HF H HF' H' → EnvR K HF' H' (vs.map some) e S' → Ow K HF' H' v r T → (∀ a, T a → HF' a = none ∧ ¬ U S' a) → Q v H'
    | .ex x e => ∀ cls d HF' H' S', Stp (U S) (U S') HF H HF' H' → EnvR K HF' H' (vs.map some) e S' → ExR K mg HF' x cls d → E cls d H'
/-- a def's promise where no list is under repr -/
structure FnG (P : Program) (w : World) (K : PySem.W.Frag) (mg : Str → Option Value) (base : Heap) (n : Nat) (f : Addr) (fd : FuncData) (ps : List Str) (sp : Sp) : Prop where
  many : ∀ vs H Q E, sp vs H Q E → vs.length = ps.length
  does : ∀ (A : Around) (outer : List PySem.Env) (s : Shared) (H : Hp) (as : Args) (us : List Value) (vs : List V) (Q : VK) (E : XK), Room n A → A.guards = some [] → Env0 P w K mg base A outer s H → BindsTo s fd as (ps.zip us) →
    Vals vs us → sp vs H Q E → codeAny (model P w) A (.call (.ref f) as) (CR (L2.CX P w) outer P w H s Q E) s
theorem run_own {X : Cx} {W : WX} {n : Nat} {f : Addr} {fd : FuncData} {ps : List Str} {sp : Sp} {pins : List (Addr × Obj)} {σ : Z.St} {H : Hp} {s : Shared} {Q : VK} {us : List Value} {vs : List V}
    (F : FnG X.prog X.w X.K X.mg X.base n f fd ps sp) (tk : Takes X W) (room : Room n X.A) (gd : X.A.guards = some []) (b : Binds X.K fd ps []) (I : Inv X pins σ H s) (r : Vals vs us) (h : sp vs H Q (L2.WE W σ)) :
    wpAny (model X.prog X.w) X.A (call (.ref f) us) (EP X pins σ Q) X.xe s := by
  have b1 : BindsTo s fd ⟨us, []⟩ (ps.zip us) := by
    have q := b s us I.kIn
    simp only [List.append_nil] at q
    exact q (r.length ▸ F.many vs H Q _ h)
  have go := F.does X.A X.stack s H ⟨us, []⟩ us vs Q (L2.WE W σ) room gd I.env0 b1 r h
  apply wpAny_call
  apply codeAny_mono go
  intro res s1 q
  match res, q with
  | .error x, q => exact L2.passAt tk σ pins H s x s1 I q
  | .ok (.ret u), q => exact I.after q
  | .ok .next, q => exact q.elim
  | .ok .brk, q => exact q.elim
  | .ok .cont, q => exact q.elim
theorem pe_own {X : Cx} {W : WX} {n : Nat} {f : Addr} {fd : FuncData} {ps : List Str} {sp : Sp} {x : Str} {p q : Pos} {e : Expr} {es : List Expr} {t : TA} (F : FnG X.prog X.w X.K X.mg X.base n f fd ps sp) (tk : Takes X W) (room : Room n X.A)
    (gd : X.A.guards = some []) (g : Gl X x) (m : X.mg x = some (.ref f)) (k : PySem.W.keepIn X.K (.ref f) = true) (b : Binds X.K fd ps []) (a : PA X (e :: es) t) (n1 : (x == ("__debug__" : Str)) = false)
    (s1 : starEach (e :: es) X.env = (false, eval e X.env) :: starEach es X.env) (s2 : (backTo q (starEach es X.env)).any (·.1) = false) : PE X (.Call (.Name x p) (e :: es) [] q) (tCallS sp (L2.WE W) t) := by
  constructor
  intro pins s σ H Q I h
  apply wpAny_Call_Name_kw
  apply ld_glob I g m _ n1
  apply PySem.W.callWith_K (h₀ := X.base) I.ok.mod.kin k _ s1 s2
  apply thn (a.run q pins s σ H _ I h)
  rintro us s2 ⟨vs, H2, I2, r, z⟩
  exact ⟨I2.kIn, run_own F tk room gd b I2 r z⟩
section
variable {X : Cx} {W : WX} {K : PySem.W.Frag} {σ : Z.St} {H HF HF1 H1 : Hp} {S S1 : Nat → Addr → Prop}
theorem RO.ow {v : V} {o : O} (r : RO K HF v o) : Ow K HF H v o fun _ => False := by
  cases o with
  | d x => exact ⟨r, fun _ z => z⟩
  | scr x => exact ⟨r, fun _ z => z⟩
  | lst x => exact r.elim
def dropS : List Nat → (Nat → Addr → Prop) → Nat → Addr → Prop
  | [], S => S
  | i :: is, S => putS (dropS is S) i fun _ => False
theorem dropS_of : ∀ {L : List Nat} {i : Nat} {a : Addr}, dropS L S i a → S i a ∧ i ∉ L
  | [], _, _, h => ⟨h, by simp⟩
  | j :: L, i, a, h => by
    have h : putS (dropS L S) j (fun _ => False) i a := h
    by_cases q : i = j
    · rw [q, putS_same] at h; exact h.elim
    · rw [putS_ne q] at h
      obtain ⟨h1, h2⟩ := dropS_of h
      exact ⟨h1, by simp only [List.mem_cons, not_or]; exact ⟨q, h2⟩⟩
theorem drop_env {e : Env} (E : EnvR K HF H σ e S) : ∀ L : List Nat, EnvR K HF H σ (dropL L e) (dropS L S)
  | [] => E
  | i :: L => (drop_env E L).drop i
theorem lend_get {e : Env} : ∀ {ts : List Tok} {os : List O}, lend ts e = some os → os.length = ts.length ∧ ∀ (j : Nat) o, os[j]? = some o → (∃ i, ts[j]? = some (.v i) ∧ slot e i = some o) ∨ ts[j]? = some (.o o)
  | [], os, h => by
    cases h
    exact ⟨rfl, fun j o q => by simp at q⟩
  | .v i :: ts, os, h => by
    unfold lend at h
    cases h1 : slot e i with
    | none => rw [h1] at h; cases h
    | some p =>
      cases h2 : lend ts e with
      | none => rw [h1, h2] at h; cases h
      | some ps =>
        rw [h1, h2] at h
        cases h
        obtain ⟨l, g⟩ := lend_get h2
        refine ⟨by simp [l], fun j o q => ?_⟩
        cases j with
        | zero => simp at q; subst q; exact .inl ⟨i, rfl, h1⟩
        | succ j =>
          have q : ps[j]? = some o := by simpa using q
          simpa using g j o q
  | .o x :: ts, os, h => by
    unfold lend at h
    cases h2 : lend ts e with
    | none => rw [h2] at h; cases h
    | some ps =>
      rw [h2] at h
      cases h
      obtain ⟨l, g⟩ := lend_get h2
      refine ⟨by simp [l], fun j o q => ?_⟩
      cases j with
      | zero => simp at q; subst q; exact .inr rfl
      | succ j =>
        have q : ps[j]? = some o := by simpa using q
        simpa using g j o q
theorem TokL.length {ts : List Tok} {vs : List V} : TokL K σ HF H ts vs → ts.length = vs.length
  | .nil => rfl
  | .cons _ t => by simp [TokL.length t]
theorem TokL.get : ∀ {ts : List Tok} {vs : List V} {j : Nat} {t : Tok}, TokL K σ HF H ts vs → ts[j]? = some t → ∃ v, vs[j]? = some v ∧ TokR K t v σ HF H
  | _, _, _, _, .nil, h => by simp at h
  | _, _, 0, _, .cons r _, h => by simp at h; subst h; exact ⟨_, rfl, r⟩
  | _, _, j + 1, _, .cons _ rs, h => by
    obtain ⟨v, h1, h2⟩ := TokL.get (j := j) rs (by simpa using h)
    exact ⟨v, by simpa using h1, h2⟩
theorem lent_mem : ∀ {ts : List Tok} {j i : Nat}, ts[j]? = some (.v i) → i ∈ lentOf ts
  | [], _, _, h => by simp at h
  | .v k :: ts, 0, i, h => by simp at h; subst h; exact List.mem_cons_self ..
  | .o _ :: ts, 0, i, h => by simp at h
  | .v k :: ts, j + 1, i, h => List.mem_cons_of_mem _ (lent_mem (j := j) (by simpa using h))
  | .o _ :: ts, j + 1, i, h => lent_mem (ts := ts) (j := j) (by simpa using h)
theorem lent_inj : ∀ {ts : List Tok} {j k i : Nat}, (lentOf ts).Nodup → ts[j]? = some (.v i) → ts[k]? = some (.v i) → j = k
  | [], _, _, _, _, h, _ => by simp at h
  | .v m :: ts, j, k, i, nd, h1, h2 => by
    have nd : (m :: lentOf ts).Nodup := nd
    obtain ⟨n1, n2⟩ := List.nodup_cons.mp nd
    cases j with
    | zero =>
      cases k with
      | zero => rfl
      | succ k =>
        simp at h1
        subst h1
        exact (n1 (lent_mem (j := k) (by simpa using h2))).elim
    | succ j =>
      cases k with
      | zero =>
        simp at h2
        subst h2
        exact (n1 (lent_mem (j := j) (by simpa using h1))).elim
      | succ k => rw [lent_inj (j := j) (k := k) n2 (by simpa using h1) (by simpa using h2)]
  | .o _ :: ts, j, k, i, nd, h1, h2 => by
    cases j with
    | zero => simp at h1
    | succ j =>
      cases k with
      | zero => simp at h2
      | succ k => rw [lent_inj (ts := ts) (j := j) (k := k) nd (by simpa using h1) (by simpa using h2)]
/-- what the callee may change -/
def lendS (ts : List Tok) (S : Nat → Addr → Prop) : Nat → Addr → Prop := fun j a => ∃ i, ts[j]? = some (.v i) ∧ S i a
theorem lend_env {e : Env} {ts : List Tok} {vs : List V} {os : List O} (E : EnvR K HF H σ e S) (r : TokL K σ HF H ts vs) (nd : (lentOf ts).Nodup) (h : lend ts e = some os) : EnvR K HF H (vs.map some) (os.map some) (lendS ts S) := by
  obtain ⟨l, g⟩ := lend_get h
  refine ⟨by simp [l, r.length], fun j o q => ?_, fun j q a ⟨i, h1, h2⟩ => ?_, fun j k a ⟨i, h1, h2⟩ ⟨i', h3, h4⟩ => ?_, fun j a ⟨i, _, h2⟩ => E.fre i a h2, E.sub⟩
  · have q1 : os[j]? = some o := by
      unfold slot at q
      rw [List.getElem?_map] at q
      cases z : os[j]? with
      | none => rw [z] at q; cases q
      | some p => rw [z] at q; cases q; rfl
    rcases g j o q1 with ⟨i, h1, h2⟩ | h1
    · obtain ⟨v, h3, h4⟩ := r.get h1
      refine ⟨v, by rw [List.getElem?_map, h3]; rfl, ?_⟩
      obtain ⟨u, h5, h6⟩ := E.val i o h2
      have h4 : σ[i]? = some (some v) := h4
      rw [h4] at h5
      cases h5
      have e1 : lendS ts S j = S i := by
        funext a
        apply propext
        constructor
        · rintro ⟨i', h7, h8⟩
          rw [h1] at h7
          cases h7
          exact h8
        · intro h8
          exact ⟨i, h1, h8⟩
      rw [e1]
      exact h6
    · obtain ⟨v, h3, h4⟩ := r.get h1
      refine ⟨v, by rw [List.getElem?_map, h3]; rfl, ?_⟩
      have e1 : lendS ts S j = fun _ => False := by
        funext a
        apply propext
        constructor
        · rintro ⟨i', h7, h8⟩
          rw [h1] at h7
          cases h7
        · exact False.elim
      rw [e1]
      exact RO.ow h4
  · have hj : j < ts.length := (List.getElem?_eq_some_iff.mp h1).1
    unfold slot at q
    rw [List.getElem?_map, List.getElem?_eq_getElem (by omega)] at q
    cases q
  · have e1 := E.dis i i' a h2 h4
    subst e1
    exact lent_inj nd h1 h3
def backS (S' : Nat → Addr → Prop) : List Tok → Nat → (Nat → Addr → Prop) → Nat → Addr → Prop
  | [], _, S => S
  | .v i :: ts, j, S => backS S' ts (j + 1) (putS S i (S' j))
  | .o _ :: ts, j, S => backS S' ts (j + 1) S
theorem back_env {S' : Nat → Addr → Prop} (dis : ∀ i j a, S' i a → S' j a → i = j) : ∀ {ts : List Tok} {vs : List V} {os : Env} {j : Nat} {e : Env} {S : Nat → Addr → Prop}, TokL K σ HF H ts vs → os.length = ts.length →
    (∀ m o, slot os m = some o → ∃ v, vs[m]? = some v ∧ Ow K HF H v o (S' (j + m))) → (∀ m, slot os m = none → ∀ a, ¬ S' (j + m) a) → (∀ m a, S' (j + m) a → HF a = none ∧ ∀ k, ¬ S k a) → EnvR K HF H σ e S →
    EnvR K HF H σ (back ts os e) (backS S' ts j S) ∧ ∀ i a, backS S' ts j S i a → S i a ∨ ∃ m, S' (j + m) a
  | [], _, os, j, e, S, _, l, _, _, _, E => by
    cases os with
    | nil => exact ⟨E, fun i a h => .inl h⟩
    | cons o os => simp at l
  | .v i :: ts, _, os, j, e, S, .cons r rs, l, hv, hn, ap, E => by
    cases os with
    | nil => simp at l
    | cons o os =>
      rename_i v vs
      have r : σ[i]? = some (some v) := r
      have hi : i < e.length := by rw [E.len]; exact (List.getElem?_eq_some_iff.mp r).1
      have E2 : EnvR K HF H σ (e.set i o) (putS S i (S' j)) := by
        cases o with
        | none =>
          have e1 : S' j = fun _ => False := by
            funext a
            have := hn 0 rfl a
            simpa using this
          rw [e1]
          exact E.drop i
        | some o =>
          obtain ⟨u, h1, h2⟩ := hv 0 o rfl
          have h1 : some v = some u := h1
          cases h1
          exact E.chg r hi (by simpa using h2) fun a h => ⟨(ap 0 a (by simpa using h)).1, fun k _ => (ap 0 a (by simpa using h)).2 k⟩
      have step : ∀ m, j + 1 + m = j + (m + 1) := fun m => by omega
      obtain ⟨E3, h3⟩ := back_env dis (ts := ts) (vs := vs) (os := os) (j := j + 1) (e := e.set i o) (S := putS S i (S' j)) rs (by simpa using l)
        (fun m p q => by rw [step]; exact hv (m + 1) p q) (fun m q a => by rw [step]; exact hn (m + 1) q a)
        (fun m a h => by
          rw [step] at h
          obtain ⟨h1, h2⟩ := ap (m + 1) a h
          refine ⟨h1, fun k q => ?_⟩
          by_cases z : k = i
          · rw [z, putS_same] at q
            have := dis _ _ a q h
            omega
          · rw [putS_ne z] at q
            exact h2 k q) E2
      refine ⟨E3, fun k a h => ?_⟩
      rcases h3 k a h with q | ⟨m, q⟩
      · by_cases z : k = i
        · rw [z, putS_same] at q
          exact .inr ⟨0, q⟩
        · rw [putS_ne z] at q
          exact .inl q
      · rw [step] at q
        exact .inr ⟨m + 1, q⟩
  | .o x :: ts, _, os, j, e, S, .cons r rs, l, hv, hn, ap, E => by
    cases os with
    | nil => simp at l
    | cons o os =>
      rename_i v vs
      have step : ∀ m, j + 1 + m = j + (m + 1) := fun m => by omega
      obtain ⟨E3, h3⟩ := back_env dis (ts := ts) (vs := vs) (os := os) (j := j + 1) (e := e) (S := S) rs (by simpa using l)
        (fun m p q => by rw [step]; exact hv (m + 1) p q) (fun m q a => by rw [step]; exact hn (m + 1) q a)
        (fun m a h => by rw [step] at h; exact ap (m + 1) a h) E
      refine ⟨E3, fun k a h => ?_⟩
      rcases h3 k a h with q | ⟨m, q⟩
      · exact .inl q
      · rw [step] at q
        exact .inr ⟨m + 1, q⟩
/-- behind a call -/
theorem after_call {e : Env} {ts : List Tok} {vs : List V} {os : List O} {e' : Env} {HF' H' : Hp} {S' : Nat → Addr → Prop} {T : Addr → Prop} (E : EnvR K HF H σ e S) (r : TokL K σ HF H ts vs) (nd : (lentOf ts).Nodup) (h : lend ts e = some os)
    (st : Stp (U (lendS ts S)) (fun a => U S' a ∨ T a) HF H HF' H') (E' : EnvR K HF' H' (vs.map some) e' S') :
    ∃ S2, Stp (U S) (fun a => U S2 a ∨ T a) HF H HF' H' ∧ EnvR K HF' H' σ (back ts e' (dropL (lentOf ts) e)) S2 ∧ ∀ a, (∀ i, ¬ S' i a) → U S2 a → U S a ∧ ¬ U (lendS ts S) a := by
  have hU : ∀ a, U (lendS ts S) a → U S a := fun a ⟨j, i, _, q⟩ => ⟨i, q⟩
  have apart : ∀ i a, dropS (lentOf ts) S i a → ¬ U (lendS ts S) a := fun i a q ⟨j, k, h1, h2⟩ => by
    obtain ⟨q1, q2⟩ := dropS_of q
    have := E.dis i k a q1 h2
    subst this
    exact q2 (lent_mem h1)
  have E0 := (drop_env E (lentOf ts)).move (HF1 := HF') (H1 := H') st.grow (fun a u ⟨i, q⟩ hu => st.keep a u hu (apart i a q)) (fun a ⟨i, q⟩ => by
    cases z : HF' a with
    | none => rfl
    | some u =>
      rcases st.newF a u z with z | z | z
      · rw [E.fre i a (dropS_of q).1] at z; cases z
      · exact (apart i a q z).elim
      · obtain ⟨u, hu⟩ := U_there E ⟨i, (dropS_of q).1⟩
        rw [hu] at z; cases z) E'.sub
  have hs : ∀ a, U S' a → U (lendS ts S) a ∨ H a = none := fun a q => st.newS a (.inl q)
  have get : ∀ m o, slot e' m = some o → ∃ v, vs[m]? = some v ∧ Ow K HF' H' v o (S' (0 + m)) := fun m o q => by
    obtain ⟨v, h1, h2⟩ := E'.val m o q
    rw [List.getElem?_map] at h1
    cases z : vs[m]? with
    | none => rw [z] at h1; cases h1
    | some u =>
      rw [z] at h1
      cases h1
      exact ⟨_, rfl, by rw [Nat.zero_add]; exact h2⟩
  obtain ⟨E2, h2⟩ := back_env (K := K) (σ := σ) (HF := HF') (H := H') E'.dis (ts := ts) (vs := vs) (os := e') (j := 0) (S := dropS (lentOf ts) S) (r.mono st.grow) (by have := E'.len; simp at this; rw [this, r.length]) get
    (fun m q a => by rw [Nat.zero_add]; exact E'.emp m q a) (fun m a q => by
      rw [Nat.zero_add] at q
      refine ⟨E'.fre m a q, fun k z => ?_⟩
      rcases hs a ⟨m, q⟩ with z2 | z2
      · exact apart k a z z2
      · obtain ⟨u, hu⟩ := U_there E ⟨k, (dropS_of z).1⟩
        rw [hu] at z2; cases z2) E0
  refine ⟨_, ⟨fun a o q n => st.keep a o q fun z => n (hU a z), st.grow, fun a o q => (st.newF a o q).imp id (Or.imp (hU a) id), st.stay, fun a q => ?_⟩, E2, fun a n ⟨i, q⟩ => ?_⟩
  · rcases q with ⟨i, q⟩ | q
    · rcases h2 i a q with q | ⟨m, q⟩
      · exact .inl ⟨i, (dropS_of q).1⟩
      · exact (hs a ⟨_, q⟩).imp (hU a) id
    · exact (st.newS a (.inr q)).imp (hU a) id
  · rcases h2 i a q with q | ⟨m, q⟩
    · exact ⟨⟨i, (dropS_of q).1⟩, apart i a q⟩
    · exact (n _ q).elim
theorem call_ok {F : Fn} {k : Nat} {e : Env} {ts : List Tok} {vs : List V} {Q : VK} (E : EnvR X.K HF H σ e S) (r : TokL X.K σ HF H ts vs) (P : PO X W HF H σ S (callF F k ts e) Q) : spF X.K X.mg (F k) vs H Q fun cls d H' => W cls d σ H' := by
  unfold callF at P
  split at P
  · rename_i nd
    cases h : lend ts e with
    | none => rw [h] at P; exact P.elim
    | some os =>
      rw [h] at P
      refine ⟨HF, os, lendS ts S, lend_env E r nd h, ?_⟩
      cases hf : F k os with
      | bad => simp only [hf] at P; exact P.elim
      | ok o e' =>
        simp only [hf] at P
        intro v HF' H' S' T st E' ro ap
        obtain ⟨S2, st2, E2, n⟩ := after_call E r nd h st E'
        refine P v HF' H' S2 T st2 E2 ro fun a z => ⟨(ap a z).1, fun q => ?_⟩
        obtain ⟨n1, n2⟩ := n a (fun i z2 => (ap a z).2 ⟨i, z2⟩) q
        rcases st.newS a (.inr z) with z2 | z2
        · exact n2 z2
        · obtain ⟨u, hu⟩ := U_there E n1
          rw [hu] at z2; cases z2
      | ex x e' =>
        simp only [hf] at P
        intro cls d HF' H' S' st E' xr
        obtain ⟨S2, st2, E2, n⟩ := after_call (T := fun _ => False) E r nd h (st.less fun a z => z.elim id False.elim) E'
        exact P cls d HF' H' S2 (st2.less fun a z => .inl z) E2 xr
  · exact P.elim
end
end Z
/-! Z6: the checker; targets; sources; comprehensions -/
namespace Z
open PySem PySem.Spec PyProof.Rows L2
/-- the program's table of defs, its constants, the built-in names that stand, whether repr is called -/
structure Cfg where
  T : List CD
  C : List (Str × PyData)
  B : List Str
  gd : Bool
def Cfg.sig (g : Cfg) : Sig := fun j => ((g.T[j]?).map CD.io).getD []
def notStar : Expr → Bool
  | .Starred _ _ => false
  | _ => true
def notSet : Expr → Bool
  | .Set _ _ _ => false
  | _ => true
def notSlice : Expr → Bool
  | .Slice _ _ _ _ => false
  | _ => true
/-- its truth is its value's -/
def plainT : Expr → Bool
  | .UnaryOp .Not _ _ => false
  | .BoolOp _ _ _ => false
  | .IfExp _ _ _ _ => false
  | .Compare _ _ _ _ => false
  | _ => true
def baseOk : Expr → Bool
  | .Call (.Name _ _) [] [] _ => false
  | _ => true
def okNm (x : Str) : Bool := !(x == ("__debug__" : Str)) && !(x == ("__classdict__" : Str)) && !decide (x = "__name__")
def kindB (sc : Scope) (x : Str) (k : NameKind) : Bool := decide (sc.names.lookup x = some k)
def visB (sc : Scope) (x : Str) : Bool := kindB sc x .local || kindB sc x .cell || kindB sc x .free
def glB (sc : Scope) (x : Str) : Bool := kindB sc x .globalImplicit
def cstOk : PyData → Const → Bool
  | .none, .none => true
  | .bool a, .bool b => a == b
  | .int a, .int b => a == b
  | .str a, .str b => decide (a = b)
  | _, _ => false
def bltName : Blt → Str
  | .len => "len"
  | .abs => "abs"
  | .int => "int"
  | .str => "str"
  | .list => "list"
  | .tuple => "tuple"
  | .max2 => "max"
  | .min2 => "min"
  | .max => "max"
  | .min => "min"
  | .sum => "sum"
  | .sorted => "sorted"
  | .any => "any"
  | .all => "all"
  | .repr => "repr"
  | .isi _ => "isinstance"
def mthName : Mth → Str
  | .lower => "lower"
  | .sindex => "index"
  | .startswith => "startswith"
  | .endswith => "endswith"
  | .split => "split"
  | .join => "join"
def isIsi : Blt → Bool
  | .isi _ => true
  | _ => false
def allNotStar : List Expr → Bool
  | [] => true
  | e :: es => notStar e && allNotStar es
mutual
/-- a target of plain local names -/
def chkT (ck : Bool) (N : List Str) (sc : Scope) : Tg → Expr → Bool
  | .nm i, .Name x _ => decide (N[i]? = some x) && (kindB sc x .local || ck && kindB sc x .cell)
  | .tup ts, .Tuple xs _ _ => chkTs ck N sc ts xs && allNotStar xs
  | _, _ => false
def chkTs (ck : Bool) (N : List Str) (sc : Scope) : List Tg → List Expr → Bool
  | [], [] => true
  | t :: ts, x :: xs => chkT ck N sc t x && chkTs ck N sc ts xs
  | _, _ => false
end
mutual
/-- the slots that a target stores -/
def tgIn (vs : List Nat) : Tg → Bool
  | .nm i => vs.contains i
  | .tup ts => tgIns vs ts
def tgIns (vs : List Nat) : List Tg → Bool
  | [] => true
  | t :: ts => tgIn vs t && tgIns vs ts
end
/-- f(x), f(x, y) -/
def rngArgs : Expr → Option (Str × Expr × Option Expr)
  | .Call (.Name f _) [x] [] _ => some (f, x, none)
  | .Call (.Name f _) [x, y] [] _ => some (f, x, some y)
  | _ => none
theorem rngArgs1 {x y : Expr} {f : Str} (h : rngArgs x = some (f, y, none)) : ∃ p p', x = .Call (.Name f p) [y] [] p' := by
  unfold rngArgs at h
  split at h <;> cases h
  exact ⟨_, _, rfl⟩
theorem rngArgs2 {x y z : Expr} {f : Str} (h : rngArgs x = some (f, y, some z)) : ∃ p p', x = .Call (.Name f p) [y, z] [] p' := by
  unfold rngArgs at h
  split at h <;> cases h
  exact ⟨_, _, rfl⟩
def isTup : Expr → Bool
  | .Tuple _ _ _ => true
  | _ => false
mutual
def chkE (g : Cfg) (N : List Str) : Scope → CE → Expr → Bool
  | _, .cst d, .Constant k _ _ => cstOk d k
  | sc, .glb x d, .Name y _ => decide (x = y) && glB sc y && okNm y && (match g.C.lookup x with | some d' => pdEq d' d | none => false)
  | sc, .var i, .Name x _ => decide (N[i]? = some x) && visB sc x && okNm x
  | sc, .mov i, .Name x _ => decide (N[i]? = some x) && visB sc x && okNm x
  | sc, .tup es, .Tuple xs _ _ => chkEs g N sc es xs
  | sc, .lst es, .List xs _ => chkEs g N sc es xs
  | sc, .bin op a b, .BinOp x op' y _ => decide (op = op') && chkE g N sc a x && chkE g N sc b y
  | sc, .neg a, .UnaryOp .USub x _ => chkE g N sc a x
  | sc, .not a, .UnaryOp .Not x _ => chkE g N sc a x
  | sc, .and es, .BoolOp .And xs _ => chkEs g N sc es xs
  | sc, .or es, .BoolOp .Or xs _ => chkEs g N sc es xs
  | sc, .cmp op a b, .Compare x [op'] [y] _ => decide (op = op') && chkE g N sc a x && chkE g N sc b y && !(behindInMarks op y)
  | sc, .chn op op' a b c, .Compare x [p, q] [y, z] _ => decide (op = p) && decide (op' = q) && chkE g N sc a x && chkE g N sc b y && chkE g N sc c z && !(lastMarks [p, q] [y, z])
  | sc, .ife c a b, .IfExp t x y _ => chkE g N sc c t && chkE g N sc a x && chkE g N sc b y
  | sc, .idx a i, .Subscript x y _ => chkE g N sc a x && chkE g N sc i y && notSlice y
  | sc, .slc a lo hi, .Subscript x (.Slice l h none _) _ => chkE g N sc a x && chkO g N sc lo l && chkO g N sc hi h
  | sc, .call k es, .Call (.Name x _) xs [] _ => (match g.T[k]? with | some d => decide (d.name = x) | none => false) && glB sc x && okNm x && chkEs g N sc es xs && decide (xs ≠ [])
  | sc, .blt (.isi T) [e], .Call (.Name x _) [y, .Name t _] [] _ => decide (x = "isinstance") && g.B.contains x && glB sc x && chkE g N sc e y && notStar y && decide (t = Str.ofString T) && g.B.contains t && glB sc t && okNm t && decide (bootBuiltins t = some (.type T))
  | sc, .blt b es, .Call (.Name x _) xs [] _ => decide (x = bltName b) && !isIsi b && (!decide (b = .repr) || g.gd) && g.B.contains x && glB sc x && chkEs g N sc es xs && decide (xs ≠ [])
  | sc, .mth m o es, .Call (.Attribute x nm apos) xs [] pos => decide (nm = mthName m) && (apos.endLine == pos.line) && chkE g N sc o x && baseOk x && chkEs g N sc es xs && decide (xs.length < 30)
  | sc, .lc own t s es ifs elt, .ListComp e [⟨tg, iter, is, 0⟩] scope _ => blkC N sc scope own && chkS g N sc s es iter && notSet iter && chkT false N (relS scope sc) t tg && tgIn (own.map (·.2)) t && chkEs g N (relS scope sc) ifs is && decide (is.length ≤ 1) && chkE g N (relS scope sc) elt e
  | _, _, _ => false
def chkEs (g : Cfg) (N : List Str) : Scope → List CE → List Expr → Bool
  | _, [], [] => true
  | sc, c :: cs, x :: xs => chkE g N sc c x && notStar x && chkEs g N sc cs xs
  | _, _, _ => false
def chkO (g : Cfg) (N : List Str) : Scope → Option CE → Option Expr → Bool
  | _, none, none => true
  | sc, some c, some x => chkE g N sc c x
  | _, _, _ => false
/-- what is walked -/
def chkS (g : Cfg) (N : List Str) : Scope → Src → List CE → Expr → Bool
  | sc, .seq, [c], x => chkE g N sc c x
  | sc, .rng1, [c], x => (match rngArgs x with
    | some (f, y, none) => decide (f = "range") && g.B.contains f && glB sc f && chkE g N sc c y && notStar y
    | _ => false)
  | sc, .rng2, [c, d], x => (match rngArgs x with
    | some (f, y, some z) => decide (f = "range") && g.B.contains f && glB sc f && chkE g N sc c y && notStar y && chkE g N sc d z && notStar z
    | _ => false)
  | _, _, _, _ => false
end
section
variable {X : Cx} {W : WX} {K : PySem.W.Frag} {σ : Z.St} {H HF HF1 H1 : Hp} {S S1 : Nat → Addr → Prop}
theorem kindB_ok {sc : Scope} {x : Str} {k : NameKind} (h : kindB sc x k = true) : sc.names.lookup x = some k := of_decide_eq_true h
theorem visB_ok {sc : Scope} {x : Str} (h : visB sc x = true) : Vis sc x := by
  unfold visB at h
  rcases Bool.or_eq_true_iff.mp h with h | h
  · rcases Bool.or_eq_true_iff.mp h with h | h
    · exact .inl (kindB_ok h)
    · exact .inr (.inl (kindB_ok h))
  · exact .inr (.inr (kindB_ok h))
theorem okNm_ok {x : Str} (h : okNm x = true) : (x == ("__debug__" : Str)) = false ∧ (x == ("__classdict__" : Str)) = false ∧ x ≠ "__name__" := by
  unfold okNm at h
  simp only [Bool.and_eq_true, Bool.not_eq_true'] at h
  exact ⟨h.1.1, h.1.2, of_decide_eq_false h.2⟩

/-! ### targets -/
mutual
def gT (K : PySem.W.Frag) : Tg → TG
  | .nm i => gName i
  | .tup ts => gTup K ts.length (gTs K ts)
def gTs (K : PySem.W.Frag) : List Tg → TGs
  | [] => gNil
  | t :: ts => gCons (gT K t) (gTs K ts)
end
theorem assignEach_map {env : PySem.Env} : ∀ {xs : List Expr}, allNotStar xs = true → (assignEach xs env).map (·.2) = xs.map (fun x => assign x env) ∧ (assignEach xs env).length = xs.length ∧ (assignEach xs env).findIdx? (·.1) = none
  | [], _ => ⟨rfl, rfl, rfl⟩
  | x :: xs, h => by
    simp only [allNotStar, Bool.and_eq_true] at h
    obtain ⟨h1, h2, h3⟩ := assignEach_map (env := env) h.2
    have e : assignEach (x :: xs) env = (false, assign x env) :: assignEach xs env := by
      cases x <;> first | rfl | (simp [notStar] at h)
    rw [e]
    refine ⟨by rw [List.map_cons, h1]; rfl, by simp [h2], by simp [List.findIdx?_cons, h3]⟩
theorem chkTs_len {ck : Bool} {N : List Str} {sc : Scope} : ∀ {ts : List Tg} {xs : List Expr}, chkTs ck N sc ts xs = true → ts.length = xs.length
  | [], [], _ => rfl
  | t :: ts, x :: xs, h => by
    simp only [chkTs, Bool.and_eq_true] at h
    simp [chkTs_len h.2]
  | [], _ :: _, h => by simp [chkTs] at h
  | _ :: _, [], h => by simp [chkTs] at h
mutual
theorem pg_T {ck : Bool} (hc : X.calm = true) (hN : X.N.Nodup) (hf : ck = true → ∀ x, X.fn x = true) : ∀ (t : Tg) (e : Expr), chkT ck X.N X.env.scope t e = true → PG X e (gT X.K t)
  | .nm i, e, h => by
    cases e with
    | Name x p =>
      simp only [chkT, Bool.and_eq_true] at h
      rcases Bool.or_eq_true_iff.mp h.2 with h2 | h2
      · have hl := kindB_ok h2
        exact pg_name hN (of_decide_eq_true h.1) (.inl hl) (.inr hl)
      · obtain ⟨h3, h4⟩ := Bool.and_eq_true_iff.mp h2
        exact pg_name hN (of_decide_eq_true h.1) (.inr (kindB_ok h4)) (.inl (hf h3 x))
    | _ => simp [chkT] at h
  | .tup ts, e, h => by
    cases e with
    | Tuple xs k p =>
      simp only [chkT, Bool.and_eq_true] at h
      obtain ⟨_, h2, h3⟩ := assignEach_map (env := X.env) h.2
      exact pg_tup hc (pgs_Ts hc hN hf ts xs h.1 h.2) (by rw [h2, chkTs_len h.1]) h3
    | _ => simp [chkT] at h
theorem pgs_Ts {ck : Bool} (hc : X.calm = true) (hN : X.N.Nodup) (hf : ck = true → ∀ x, X.fn x = true) : ∀ (ts : List Tg) (es : List Expr), chkTs ck X.N X.env.scope ts es = true → allNotStar es = true → PGs X es (gTs X.K ts)
  | [], [], _, _ => pgs_nil
  | t :: ts, e :: es, h, n => by
    simp only [chkTs, Bool.and_eq_true] at h
    have n2 : allNotStar es = true := by simp only [allNotStar, Bool.and_eq_true] at n; exact n.2
    have e1 := (assignEach_map (env := X.env) n).1
    have e2 := (assignEach_map (env := X.env) n2).1
    exact pgs_cons (pg_T hc hN hf t e h.1) (pgs_Ts hc hN hf ts es h.2 n2) (by rw [e1, e2]; rfl)
  | [], _ :: _, h, _ => by simp [chkTs] at h
  | _ :: _, [], h, _ => by simp [chkTs] at h
end
mutual
theorem asg_ok {Q : Z.St → Hp → Prop} : ∀ (t : Tg) (d : PyData) (v : V) (e e1 : Env) (σ : Z.St) (S : Nat → Addr → Prop), asg t d e = some e1 → EnvR K HF H σ e S → Rp K HF v d →
    (∀ σ1 S1, EnvR K HF H σ1 e1 S1 → (∀ i a, S1 i a → S i a) → (∀ vs, tgIn vs t = true → wipe σ1 vs = wipe σ vs) → Q σ1 H) → gT K t v σ H Q
  | .nm i, d, v, e, e1, σ, S, h, E, r, k => by
    unfold asg at h
    split at h <;> cases h
    rename_i hi
    refine k _ _ (E.put hi (o := .d d) (T := fun _ => False) ⟨r, fun _ z => z⟩ fun _ z => z.elim) (fun j a z => ?_) fun vs hv => ?_
    · unfold putS at z
      split at z
      · exact z.elim
      · exact z
    · have hv : i ∈ vs := by simpa [tgIn] using hv
      exact wipe_put hv
  | .tup ts, d, v, e, e1, σ, S, h, E, r, k => by
    cases d with
    | tuple xs =>
      have h : asgL ts xs e = some e1 := h
      cases r with
      | tup hq rr =>
        have q := asgL_ok (Q := Q) ts xs _ e e1 σ S h E rr fun σ1 S1 E1 hs hw => k σ1 S1 E1 hs fun vs hv => hw vs hv
        have hl : ts.length = xs.length := asgL_len ts xs e e1 h
        exact ⟨_, _, rfl, seqT_mono E.sub hq, by rw [rr.length, hl], q⟩
    | _ => simp [asg] at h
theorem asgL_ok {Q : Z.St → Hp → Prop} : ∀ (ts : List Tg) (ds : List PyData) (vs : List V) (e e1 : Env) (σ : Z.St) (S : Nat → Addr → Prop), asgL ts ds e = some e1 → EnvR K HF H σ e S → RpL K HF vs ds →
    (∀ σ1 S1, EnvR K HF H σ1 e1 S1 → (∀ i a, S1 i a → S i a) → (∀ ws, tgIns ws ts = true → wipe σ1 ws = wipe σ ws) → Q σ1 H) → gTs K ts vs σ H Q
  | [], [], _, e, e1, σ, S, h, E, .nil, k => by
    cases h
    exact ⟨rfl, k σ S E (fun _ _ z => z) fun _ _ => rfl⟩
  | t :: ts, d :: ds, _, e, e1, σ, S, h, E, .cons (v := v) (vs := vs) r rr, k => by
    have h : (asg t d e).bind (asgL ts ds) = some e1 := h
    cases q : asg t d e with
    | none => rw [q] at h; cases h
    | some e2 =>
      rw [q] at h
      refine ⟨v, vs, rfl, asg_ok t d v e e2 σ S q E r fun σ2 S2 E2 hs hw => ?_⟩
      exact asgL_ok ts ds vs e2 e1 σ2 S2 h E2 rr fun σ3 S3 E3 hs3 hw3 => k σ3 S3 E3 (fun i a z => hs i a (hs3 i a z)) fun ws hm => by
        have hm : (tgIn ws t && tgIns ws ts) = true := hm
        obtain ⟨m1, m2⟩ := Bool.and_eq_true_iff.mp hm
        exact (hw3 ws m2).trans (hw ws m1)
  | [], _ :: _, _, e, e1, σ, S, h, E, _, k => by simp [asgL] at h
  | _ :: _, [], _, e, e1, σ, S, h, E, _, k => by simp [asgL] at h
theorem asgL_len : ∀ (ts : List Tg) (ds : List PyData) (e e1 : Env), asgL ts ds e = some e1 → ts.length = ds.length
  | [], [], _, _, _ => rfl
  | t :: ts, d :: ds, e, e1, h => by
    have h : (asg t d e).bind (asgL ts ds) = some e1 := h
    cases q : asg t d e with
    | none => rw [q] at h; cases h
    | some e2 =>
      rw [q] at h
      simp [asgL_len ts ds e2 e1 h]
  | [], _ :: _, _, _, h => by simp [asgL] at h
  | _ :: _, [], _, _, h => by simp [asgL] at h
theorem wipe_put {σ : Z.St} {i : Nat} {v : Option V} : ∀ {vs : List Nat}, i ∈ vs → wipe (σ.set i v) vs = wipe σ vs
  | j :: vs, h => by
    show (wipe (σ.set i v) vs).set j none = (wipe σ vs).set j none
    rcases List.mem_cons.mp h with e | h
    · subst e
      by_cases q : i ∈ vs
      · rw [wipe_put q]
      · have : ∀ (ws : List Nat), i ∉ ws → wipe (σ.set i v) ws = (wipe σ ws).set i v := by
          intro ws
          induction ws with
          | nil => intro _; rfl
          | cons k ws ih =>
            intro hn
            simp only [List.mem_cons, not_or] at hn
            show (wipe (σ.set i v) ws).set k none = ((wipe σ ws).set k none).set i v
            rw [ih hn.2, List.set_comm _ _ hn.1]
        rw [this vs q, List.set_set]
    · rw [wipe_put h]
end
end
end Z
/-! Z7: what is walked; comprehensions -/
namespace Z
open PySem PySem.Spec PyProof.Rows L2
/-- the walk J goes through the items -/
def Wk (K : PySem.W.Frag) (HF : Hp) (J : It) (items : List PyData) : Prop := ∀ i HF1 H1, Sub HF HF1 → Sub HF1 H1 →
  (∀ d, items[i]? = some d → J.go i H1 ∧ ∀ x H', J.yld i H1 x H' → ∃ HF', Stp (fun _ => False) (fun _ => False) HF1 H1 HF' H' ∧ Sub HF' H' ∧ Rp K HF' x d) ∧ (items.length ≤ i → J.stop i H1)
def relW (K : PySem.W.Frag) : List PyData → It → Z.St → Hp → Hp → Prop := fun xs J _ HF _ => Wk K HF J xs
section
variable {X : Cx} {W : WX} {K : PySem.W.Frag} {σ : Z.St} {H HF HF1 H1 : Hp} {S S1 : Nat → Addr → Prop}
theorem wk_list {a : Addr} {vs : List V} {ds : List PyData} (h : SqL K HF a vs) (r : RpL K HF vs ds) : Wk K HF (Itl K a) ds := fun i HF1 H1 s1 s2 => by
  have h2 : SqL K H1 a vs := seqL_mono s2 (seqL_mono s1 h)
  refine ⟨fun d hd => ?_, fun hl => ⟨vs, h2, by rw [r.length]; exact hl⟩⟩
  obtain ⟨v, h3, h4⟩ := r.get hd
  refine ⟨⟨vs, v, h2, h3⟩, fun x H' ⟨e1, e2⟩ => ?_⟩
  subst e1
  have e3 := e2 vs h2
  rw [h3] at e3
  cases e3
  exact ⟨HF1, Stp.refl, s2, Rp.mono s1 h4⟩
theorem wk_tup {a : Addr} {vs : List V} {ds : List PyData} (h : SqT K HF a vs) (r : RpL K HF vs ds) : Wk K HF (Itt K a) ds := fun i HF1 H1 s1 s2 => by
  have h2 : SqT K H1 a vs := seqT_mono s2 (seqT_mono s1 h)
  refine ⟨fun d hd => ?_, fun hl => ⟨vs, h2, by rw [r.length]; exact hl⟩⟩
  obtain ⟨v, h3, h4⟩ := r.get hd
  refine ⟨⟨vs, v, h2, h3⟩, fun x H' ⟨e1, e2⟩ => ?_⟩
  subst e1
  have e3 := e2 vs h2
  rw [h3] at e3
  cases e3
  exact ⟨HF1, Stp.refl, s2, Rp.mono s1 h4⟩
theorem wk_str (x : Str) : Wk K HF (Its x) (signs x) := fun i HF1 H1 s1 s2 => by
  have hlen : (signs x).length = x.cps.size := by simp [signs]
  refine ⟨fun d hd => ?_, fun hl => by show x.cps.size ≤ i; omega⟩
  have hi : i < x.cps.size := by
    have := (List.getElem?_eq_some_iff.mp hd).1
    omega
  refine ⟨hi, fun v H' ⟨e1, c, e2, e3⟩ => ?_⟩
  subst e1 e3
  refine ⟨HF1, Stp.refl, s2, ?_⟩
  have e4 : (signs x)[i]? = some (.str ⟨#[c]⟩) := by
    simp only [signs, List.getElem?_map, Array.getElem?_toList, e2]
    rfl
  rw [hd] at e4
  cases e4
  exact .str _
theorem wk_range (lo : Int) (n : Nat) : Wk K HF (Itr lo n) (rangeD lo n) := fun i HF1 H1 s1 s2 => by
  have hlen : (rangeD lo n).length = n := by simp [rangeD]
  refine ⟨fun d hd => ?_, fun hl => by show n ≤ i; omega⟩
  have hi : i < n := by
    have := (List.getElem?_eq_some_iff.mp hd).1
    omega
  refine ⟨hi, fun v H' ⟨e1, e2⟩ => ?_⟩
  subst e1 e2
  refine ⟨HF1, Stp.refl, s2, ?_⟩
  have e4 : (rangeD lo n)[i]? = some (.int (lo + (i : Nat))) := by
    simp only [rangeD, List.getElem?_map, List.getElem?_range hi]
    rfl
  rw [hd] at e4
  cases e4
  exact .int _

/-! ### comprehensions -/
theorem wipe_out : ∀ {vs : List Nat} {σ : Z.St} {i : Nat}, i ∉ vs → (wipe σ vs)[i]? = σ[i]?
  | [], _, _, _ => rfl
  | v :: vs, σ, i, h => by
    simp only [List.mem_cons, not_or] at h
    show ((wipe σ vs).set v none)[i]? = _
    rw [List.getElem?_set_ne (Ne.symm h.1), wipe_out h.2]
theorem slot_drop : ∀ {vs : List Nat} {e : Env} {i : Nat}, slot (dropL vs e) i = if i ∈ vs then none else slot e i
  | [], _, _ => by simp [dropL]
  | v :: vs, e, i => by
    show slot ((dropL vs e).set v none) i = _
    by_cases h : v = i
    · subst h
      rw [if_pos (List.mem_cons_self ..)]
      by_cases q : v < (dropL vs e).length
      · exact slot_set_same q
      · unfold slot; rw [List.getElem?_eq_none (by simpa using q)]; rfl
    · rw [slot_set_ne h, slot_drop]
      by_cases q : i ∈ vs
      · rw [if_pos q, if_pos (List.mem_cons_of_mem _ q)]
      · rw [if_neg q, if_neg (by simp only [List.mem_cons, not_or]; exact ⟨Ne.symm h, q⟩)]
theorem drop_len : ∀ {vs : List Nat} {e : Env}, (dropL vs e).length = e.length
  | [], _ => rfl
  | v :: vs, e => by
    show ((dropL vs e).set v none).length = _
    rw [List.length_set, drop_len]
theorem rest_len : ∀ {vs : List Nat} {e0 e : Env}, (restE e0 e vs).length = e.length
  | [], _, _ => rfl
  | v :: vs, e0, e => by
    show ((restE e0 e vs).set v _).length = _
    rw [List.length_set, rest_len]
theorem slot_rest : ∀ {vs : List Nat} {e0 e : Env} {i : Nat}, e0.length = e.length → slot (restE e0 e vs) i = if i ∈ vs then slot e0 i else slot e i
  | [], _, _, _, _ => by simp [restE]
  | v :: vs, e0, e, i, hl => by
    show slot ((restE e0 e vs).set v (slot e0 v)) i = _
    by_cases h : v = i
    · subst h
      rw [if_pos (List.mem_cons_self ..)]
      by_cases q : v < (restE e0 e vs).length
      · exact slot_set_same q
      · rw [rest_len] at q
        have z : slot e0 v = none := by unfold slot; rw [List.getElem?_eq_none (by omega)]; rfl
        rw [z]
        unfold slot
        rw [List.getElem?_eq_none (by rw [List.length_set, rest_len]; omega)]; rfl
    · rw [slot_set_ne h, slot_rest hl]
      by_cases q : i ∈ vs
      · rw [if_pos q, if_pos (List.mem_cons_of_mem _ q)]
      · rw [if_neg q, if_neg (by simp only [List.mem_cons, not_or]; exact ⟨Ne.symm h, q⟩)]
/-- the slots at vs forgotten on both sides -/
theorem wipe_env {vs : List Nat} {e : Env} (E : EnvR K HF H σ e S) : EnvR K HF H (wipe σ vs) (dropL vs e) (dropS vs S) := by
  have D := drop_env E vs
  refine ⟨by rw [wipe_length]; exact D.len, fun i o h => ?_, D.emp, D.dis, D.fre, D.sub⟩
  obtain ⟨v, h1, h2⟩ := D.val i o h
  refine ⟨v, ?_, h2⟩
  rw [slot_drop] at h
  split at h
  · cases h
  · rename_i q
    rw [wipe_out q]
    exact h1
/-- behind a comprehension -/
theorem rest_env {vs : List Nat} {e0 e : Env} {S0 : Nat → Addr → Prop} {D : Addr} (E0 : EnvR K HF H σ e0 S0) (st : Stp (U (dropS vs S0)) (fun a => U S1 a ∨ a = D) HF H HF1 H1) (E1 : EnvR K HF1 H1 (wipe σ vs) (dropL vs e) S1) (hD : ¬ U S1 D) (hD0 : H D = none) :
    ∃ S2, Stp (U S0) (fun a => U S2 a ∨ a = D) HF H HF1 H1 ∧ EnvR K HF1 H1 σ (restE e0 e vs) S2 ∧ ¬ U S2 D := by
  have hle : e0.length = e.length := by
    have h1 := E0.len
    have h2 := E1.len
    rw [drop_len, wipe_length] at h2
    omega
  have emp1 : ∀ i, i ∈ vs → ∀ a, ¬ S1 i a := fun i hi => E1.emp i (by rw [slot_drop, if_pos hi])
  have apart : ∀ i a, i ∈ vs → S0 i a → ¬ U (dropS vs S0) a := fun i a hi h ⟨j, q⟩ => by
    obtain ⟨q1, q2⟩ := dropS_of q
    have := E0.dis i j a h q1
    subst this
    exact q2 hi
  have kept : ∀ i a u, i ∈ vs → S0 i a → H a = some u → H1 a = some u := fun i a u hi h hu => st.keep a u hu (apart i a hi h)
  refine ⟨fun i a => (i ∈ vs ∧ S0 i a) ∨ (i ∉ vs ∧ S1 i a), ⟨fun a o h n => st.keep a o h fun ⟨j, q⟩ => n ⟨j, (dropS_of q).1⟩, st.grow, fun a o h => (st.newF a o h).imp id (Or.imp (fun ⟨j, q⟩ => ⟨j, (dropS_of q).1⟩) id), st.stay, fun a h => ?_⟩, ⟨?_, fun i o h => ?_, fun i h a q => ?_, fun i j a h1 h2 => ?_, fun i a h => ?_, E1.sub⟩, ?_⟩
  · rcases h with ⟨i, h⟩ | h
    · rcases h with ⟨_, h⟩ | ⟨_, h⟩
      · exact .inl ⟨i, h⟩
      · exact (st.newS a (.inl ⟨i, h⟩)).imp (fun ⟨j, q⟩ => ⟨j, (dropS_of q).1⟩) id
    · exact .inr (by rw [h]; exact hD0)
  · rw [rest_len, ← hle, E0.len]
  · rw [slot_rest hle] at h
    by_cases hi : i ∈ vs
    · rw [if_pos hi] at h
      obtain ⟨v, h1, h2⟩ := E0.val i o h
      refine ⟨v, h1, ?_⟩
      have e1 : (fun a => (i ∈ vs ∧ S0 i a) ∨ (i ∉ vs ∧ S1 i a)) = S0 i := by
        funext a
        simp [hi]
      rw [e1]
      exact h2.move st.grow fun a u q hu => kept i a u hi q hu
    · rw [if_neg hi] at h
      obtain ⟨v, h1, h2⟩ := E1.val i o (by rw [slot_drop, if_neg hi]; exact h)
      rw [wipe_out hi] at h1
      refine ⟨v, h1, ?_⟩
      have e1 : (fun a => (i ∈ vs ∧ S0 i a) ∨ (i ∉ vs ∧ S1 i a)) = S1 i := by
        funext a
        simp [hi]
      rw [e1]
      exact h2
  · rw [slot_rest hle] at h
    rcases q with ⟨hi, q⟩ | ⟨hi, q⟩
    · rw [if_pos hi] at h
      exact E0.emp i h a q
    · rw [if_neg hi] at h
      exact E1.emp i (by rw [slot_drop, if_neg hi]; exact h) a q
  · have mix : ∀ i j, i ∈ vs → S0 i a → S1 j a → False := fun i j hi q1 q2 => by
      rcases st.newS a (.inl ⟨j, q2⟩) with z | z
      · exact apart i a hi q1 z
      · obtain ⟨u, hu⟩ := U_there E0 ⟨i, q1⟩
        rw [hu] at z; cases z
    rcases h1 with ⟨hi, h1⟩ | ⟨hi, h1⟩ <;> rcases h2 with ⟨hj, h2⟩ | ⟨hj, h2⟩
    · exact E0.dis i j a h1 h2
    · exact (mix i j hi h1 h2).elim
    · exact (mix j i hj h2 h1).elim
    · exact E1.dis i j a h1 h2
  · rcases h with ⟨hi, h⟩ | ⟨hi, h⟩
    · cases z : HF1 a with
      | none => rfl
      | some u =>
        rcases st.newF a u z with z | z | z
        · rw [E0.fre i a h] at z; cases z
        · exact (apart i a hi h z).elim
        · obtain ⟨u, hu⟩ := U_there E0 ⟨i, h⟩
          rw [hu] at z; cases z
    · exact E1.fre i a h
  · rintro ⟨i, ⟨_, h⟩ | ⟨_, h⟩⟩
    · obtain ⟨u, hu⟩ := U_there E0 ⟨i, h⟩
      rw [hD0] at hu; cases hu
    · exact hD ⟨i, h⟩

theorem Stp.aside {A B : Addr → Prop} {D : Addr} {u : HO} (st : Stp A B HF H HF1 H1) (n : ¬ A D) (h : H D = some u) (hf : HF D = none) : H1 D = some u ∧ HF1 D = none ∧ ¬ B D := by
  refine ⟨st.keep D u h n, ?_, fun b => ?_⟩
  · cases z : HF1 D with
    | none => rfl
    | some w =>
      rcases st.newF D w z with z | z | z
      · rw [hf] at z; cases z
      · exact (n z).elim
      · rw [h] at z; cases z
  · rcases st.newS D b with z | z
    · exact n z
    · rw [h] at z; cases z
theorem Stp.quiet {A : Addr → Prop} (st : Stp (fun _ => False) (fun _ => False) HF H HF1 H1) : Stp A A HF H HF1 H1 := ((st.beside (T := A)).more fun a z => z.elim False.elim id).less fun a z => .inr z
theorem EnvR.quiet {e : Env} (E : EnvR K HF H σ e S) (st : Stp (fun _ => False) (fun _ => False) HF H HF1 H1) (sub : Sub HF1 H1) : EnvR K HF1 H1 σ e S :=
  E.move st.grow (fun a u _ h => st.keep a u h id) (fun a ⟨i, h⟩ => by
    cases z : HF1 a with
    | none => rfl
    | some w =>
      rcases st.newF a w z with z | z | z
      · rw [E.fre i a h] at z; cases z
      · exact z.elim
      · obtain ⟨u, hu⟩ := U_there E ⟨i, h⟩
        rw [hu] at z; cases z) sub
theorem U_less {S S' : Nat → Addr → Prop} (h : ∀ i a, S' i a → S i a) : ∀ a, U S' a → U S a := fun a ⟨i, q⟩ => ⟨i, h i a q⟩
theorem dropS_less (vs : List Nat) : ∀ a, U (dropS vs S) a → U S a := fun a ⟨i, q⟩ => ⟨i, (dropS_of q).1⟩
abbrev Wf : WX := fun _ _ _ _ => False
theorem compr_ok {vs : List Nat} {t : Tg} {items : List PyData} {test : M Bool} {elt : M PyData} {tt : TT} {te : TE} {J : It} {e1 : Env} {Q : VK} (hin : tgIn vs t = true) (wk : Wk X.K HF1 J items) (E : EnvR X.K HF1 H1 σ e1 S1)
    (P : PO X W HF1 H1 σ S1 (compr vs t items test elt e1) Q) (hT : SD X Wf relB tt test) (hE : SD X Wf (relX X.K) te elt) :
    ∀ D, H1 D = none → ∃ Wi : Nat → Nat → Hp → Prop, (∃ m, Wi 0 m (upd H1 D (.lst []))) ∧ ∀ i m H, Wi i m H → (J.stop i H ∧ Q (.ref D) H) ∨
      (J.go i H ∧ ∃ Nx : Hp → Prop, (∀ H', Nx H' → ∃ m', m' < m ∧ Wi (i + 1) m' H') ∧ ∀ x H', J.yld i H x H' → gT X.K t x (wipe σ vs) H' fun σ2 H2 => wipe σ2 vs = wipe σ vs ∧ tt σ2 H2 fun b H3 =>
        if b = true then te σ2 H3 fun y H4 => ∃ acc, H4 D = some (.lst acc) ∧ acc.length < sizeLine ∧ Nx (upd H4 D (.lst (acc ++ [y]))) else Nx H3) := by
  intro D hD
  unfold compr at P
  have hF1 : HF1 D = none := E.sub.none hD
  have nS1 : ¬ U (dropS vs S1) D := fun h => by
    obtain ⟨u, hu⟩ := U_there E (dropS_less vs D h)
    rw [hD] at hu; cases hu
  cases ht : turns vs t test elt items [] e1 with
  | bad => rw [ht] at P; exact P.elim
  | ex x e' => rw [ht] at P; exact P.elim
  | ok ys ef =>
    rw [ht] at P
    let CI : Nat → Hp → Prop := fun i H' => ∃ acc accV HF' env' S', Stp (U (dropS vs S1)) (fun a => U S' a ∨ a = D) HF1 H1 HF' H' ∧ EnvR X.K HF' H' (wipe σ vs) (dropL vs env') S' ∧ H' D = some (.lst accV) ∧ RpL X.K HF' accV acc ∧ HF' D = none ∧ ¬ U S' D ∧
      turns vs t test elt (items.drop i) acc env' = .ok ys ef
    refine ⟨fun i m H' => m = items.length - i ∧ i ≤ items.length ∧ CI i H', ⟨items.length, by simp, Nat.zero_le _, [], [], HF1, e1, dropS vs S1, ?_, ?_, upd_same, .nil, hF1, nS1, ht⟩, ?_⟩
    · exact (Stp.newO hD).less fun a z => z
    · exact (wipe_env E).move (fun _ _ h => h) (fun a u h q => by rw [upd_ne (ne_of_none q hD)]; exact q) (fun a ⟨i, h⟩ => (wipe_env (vs := vs) E).fre i a h) (sub_newO E.sub hF1)
    · rintro i m H' ⟨rfl, hi, acc, accV, HF', env', S', st, E', hDl, racc, hfD, nD, htn⟩
      obtain ⟨wgo, wstop⟩ := wk i HF' H' st.grow E'.sub
      by_cases hlt : i < items.length
      · right
        have hget : items[i]? = some items[i] := List.getElem?_eq_getElem hlt
        have hdrop : items.drop i = items[i] :: items.drop (i + 1) := by rw [List.drop_eq_getElem_cons hlt]
        obtain ⟨go, yl⟩ := wgo _ hget
        refine ⟨go, CI (i + 1), fun H2 c => ⟨items.length - (i + 1), by omega, rfl, hlt, c⟩, fun x H2 y => ?_⟩
        obtain ⟨HF2, st2, sub2, rx⟩ := yl x H2 y
        rw [hdrop] at htn
        unfold turns at htn
        -- the turn's own evaluation
        have E2 := E'.quiet st2 sub2
        obtain ⟨d1, d2, d3⟩ := st2.aside (fun z => z) hDl hfD
        cases ha : asg t items[i] (dropL vs env') with
        | none =>
          simp only [bnd, asgM, ha] at htn
          cases htn
        | some ea =>
          simp only [bnd, asgM, ha] at htn
          refine asg_ok t _ x _ ea (wipe σ vs) S' ha E2 rx fun σ3 S3 E3 hs3 hw3 => ⟨?_, ?_⟩
          · rw [hw3 vs hin]
            exact wipe_wipe
          · have n3 : ¬ U S3 D := fun z => nD (U_less hs3 D z)
            have stA : Stp (U S') (U S3) HF' H' HF2 H2 := (st2.quiet (A := U S')).less (U_less hs3)
            cases hb : test ea with
            | bad => simp only [hb] at htn; cases htn
            | ex z e5 => simp only [hb] at htn; cases htn
            | ok b eb =>
              simp only [hb] at htn
              refine hT σ3 ea HF2 H2 S3 _ E3 ?_
              rw [hb]
              intro b' HF4 H4 S4 st4 E4 eb'
              have eb' : b' = b := eb'
              subst eb'
              obtain ⟨d4, d5, d6⟩ := st4.aside n3 d1 d2
              cases b' with
              | false =>
                simp only [ret, Bool.false_eq_true, if_false] at htn
                rw [if_neg (by decide)]
                refine ⟨acc, accV, HF4, eb, dropS vs S4, ?_, ?_, d4, racc.mono (fun a o h => st4.grow a o (st2.grow a o h)), d5, fun z => d6 (dropS_less vs D z), htn⟩
                · have s5 := (stA.trans st4).beside (T := fun a => a = D)
                  exact (st.trans s5).less fun a z => z.imp (dropS_less vs a) id
                · have q := wipe_env (vs := vs) E4
                  rw [hw3 vs hin, wipe_wipe] at q
                  exact q
              | true =>
                simp only [↓reduceIte, bnd] at htn
                rw [if_pos rfl]
                cases hy : elt eb with
                | bad => simp only [hy] at htn; cases htn
                | ex z e5 => simp only [hy] at htn; cases htn
                | ok yd ey =>
                  simp only [hy, ret] at htn
                  split at htn
                  · rename_i hz
                    refine hE σ3 eb HF4 H4 S4 _ E4 ?_
                    rw [hy]
                    intro yv HF6 H6 S6 st6 E6 ry
                    obtain ⟨d7, d8, d9⟩ := st6.aside d6 d4 d5
                    have ra2 : RpL X.K HF6 accV acc := racc.mono (fun a o h => st6.grow a o (st4.grow a o (st2.grow a o h)))
                    refine ⟨accV, d7, by rw [racc.length]; exact lt_line hz, acc ++ [yd], accV ++ [yv], HF6, ey, dropS vs S6, ?_, ?_, upd_same, ra2.append (.cons ry .nil), d8, fun z => d9 (dropS_less vs D z), htn⟩
                    · have s5 := ((stA.trans st4).trans st6).beside (T := fun a => a = D)
                      have s6 : Stp (fun a => U S6 a ∨ a = D) (fun a => U S6 a ∨ a = D) HF6 H6 HF6 (upd H6 D (.lst (accV ++ [yv]))) := Stp.wr d7 (.inr rfl)
                      exact ((st.trans s5).trans s6).less fun a z => z.imp (dropS_less vs a) id
                    · have q := wipe_env (vs := vs) E6
                      rw [hw3 vs hin, wipe_wipe] at q
                      exact q.move (fun _ _ h => h) (fun a u ha hu => by
                        have ne : a ≠ D := fun z => d9 (dropS_less vs D (by rw [← z]; exact ha))
                        rw [upd_ne ne]
                        exact hu) (fun a ⟨k, h⟩ => q.fre k a h) (sub_newO q.sub d8)
                  · cases htn
      · left
        have ei : i = items.length := by omega
        refine ⟨wstop (by omega), ?_⟩
        rw [ei, List.drop_length] at htn
        have htn : Res.ok acc env' = Res.ok ys ef := htn
        injection htn with h1 h2
        subst h1 h2
        obtain ⟨S2, st2, E2, n2⟩ := rest_env E st E' nD hD
        exact P (.ref D) HF' H' S2 (fun a => a = D) st2 E2 ⟨D, accV, rfl, hDl, racc, fun _ => Iff.rfl⟩ fun a z => by
          subst z
          exact ⟨hfD, n2⟩
where
  wipe_wipe {σ : Z.St} {vs : List Nat} : wipe (wipe σ vs) vs = wipe σ vs := by
    apply List.ext_getElem?
    intro i
    by_cases h : i ∈ vs
    · have key : ∀ (τ : Z.St), i < τ.length → (wipe τ vs)[i]? = some none := by
        intro τ hl
        induction vs with
        | nil => cases h
        | cons v vs ih =>
          show ((wipe τ vs).set v none)[i]? = _
          by_cases q : v = i
          · subst q
            exact List.getElem?_set_self (by rw [wipe_length]; exact hl)
          · rw [List.getElem?_set_ne q]
            exact ih ((List.mem_cons.mp h).elim (fun z => (q z.symm).elim) id)
      by_cases hl : i < σ.length
      · rw [key _ (by rw [wipe_length]; exact hl), key _ hl]
      · rw [List.getElem?_eq_none (by rw [wipe_length, wipe_length]; omega), List.getElem?_eq_none (by rw [wipe_length]; omega)]
    · rw [wipe_out h]
end
end Z
/-! Z8: every checked expression does as the evaluator says -/
namespace Z
open PySem PySem.Spec PyProof.Rows L2
/-- the context knows the program -/
structure Gd (g : Cfg) (F : Fn) (X : Cx) (W : WX) (n : Nat) : Prop where
  calm : X.calm = true
  nd : X.N.Nodup
  tk : Takes X W
  room : Room n X.A
  gd : X.A.guards = some []
  glb : ∀ x d, g.C.lookup x = some d → ∃ u v, X.mg x = some u ∧ RelV v u ∧ Rp X.K (fun _ => none) v d
  blt : ∀ x, g.B.contains x = true → X.mg x = none
  fn : ∀ k d, g.T[k]? = some d → ∃ f fd, X.mg d.name = some (.ref f) ∧ PySem.W.keepIn X.K (.ref f) = true ∧ Binds X.K fd d.ps [] ∧ FnG X.prog X.w X.K X.mg X.base n f fd d.ps (spF X.K X.mg (F k))
section
variable {g : Cfg} {F : Fn} {X : Cx} {W : WX} {n : Nat} {K : PySem.W.Frag} {σ : Z.St} {H HF HF1 H1 : Hp} {S S1 : Nat → Addr → Prop} {Q : VK} {e : Env}
theorem Gd.blk (G : Gd g F X W n) (s : Shared) (H : Hp) (scope : Scope) (cenv : PySem.Env) (fp : List Addr) : Gd g F (X.blk s H scope cenv fp) Wf n :=
  ⟨G.calm, G.nd, L2.takes0, G.room, G.gd, G.glb, G.blt, G.fn⟩
theorem Gd.hu (G : Gd g F X W n) : X.A.units + 64 < cLine := by have := G.room.un; omega
theorem gl_ok {x : Str} (h : glB X.env.scope x = true) : Gl X x := kindB_ok h
theorem PO.dat {d : PyData} {v : V} (P : PO X W HF H σ S (.ok (.d d) e) Q) (E : EnvR X.K HF H σ e S) (r : Rp X.K HF v d) : Q v H :=
  P v HF H S (fun _ => False) (Stp.refl.less fun a z => z.elim id False.elim) E ⟨r, fun _ z => z⟩ fun _ z => z.elim
theorem PD.val {α β : Type} {rel : α → β → Z.St → Hp → Hp → Prop} {a : α} {b : β} {R : β → Hp → Prop} (P : PD X W rel HF H σ S (.ok a e) R) (E : EnvR X.K HF H σ e S) (r : rel a b σ HF H) : R b H := P b HF H S Stp.refl E r
theorem withT_ok {ts : List Tok} {f : List O → Option O} (P : PO X W HF H σ S (withT ts f e) Q) : ∃ os o, lates ts e = some os ∧ f os = some o ∧ PO X W HF H σ S (.ok o e) Q := by
  unfold withT at P
  cases h : lates ts e with
  | none => rw [h] at P; exact P.elim
  | some os =>
    cases h2 : f os with
    | none => simp only [h, h2] at P; exact P.elim
    | some o => simp only [h, h2] at P; exact ⟨os, o, rfl, h2, P⟩
theorem withT_okD {α β : Type} {rel : α → β → Z.St → Hp → Hp → Prop} {R : β → Hp → Prop} {ts : List Tok} {f : List O → Option α} (P : PD X W rel HF H σ S (withT ts f e) R) : ∃ os o, lates ts e = some os ∧ f os = some o ∧ PD X W rel HF H σ S (.ok o e) R := by
  unfold withT at P
  cases h : lates ts e with
  | none => rw [h] at P; exact P.elim
  | some os =>
    cases h2 : f os with
    | none => simp only [h, h2] at P; exact P.elim
    | some o => simp only [h, h2] at P; exact ⟨os, o, rfl, h2, P⟩
theorem opt_ok {o : Option O} (P : PO X W HF H σ S (opt o e) Q) : ∃ a, o = some a ∧ PO X W HF H σ S (.ok a e) Q := by
  cases o with
  | none => exact P.elim
  | some a => exact ⟨a, rfl, P⟩
theorem opt_okD {α β : Type} {rel : α → β → Z.St → Hp → Hp → Prop} {R : β → Hp → Prop} {o : Option α} (P : PD X W rel HF H σ S (opt o e) R) : ∃ a, o = some a ∧ PD X W rel HF H σ S (.ok a e) R := by
  cases o with
  | none => exact P.elim
  | some a => exact ⟨a, rfl, P⟩
theorem bopt_ok {α : Type} {o : Option α} {f : α → M O} (P : PO X W HF H σ S (bnd (opt o) f e) Q) : ∃ a, o = some a ∧ PO X W HF H σ S (f a e) Q := by
  cases o with
  | none => exact P.elim
  | some a => exact ⟨a, rfl, P⟩
theorem bopt_okD {α β γ : Type} {rel : α → β → Z.St → Hp → Hp → Prop} {R : β → Hp → Prop} {o : Option γ} {f : γ → M α} (P : PD X W rel HF H σ S (bnd (opt o) f e) R) : ∃ a, o = some a ∧ PD X W rel HF H σ S (f a e) R := by
  cases o with
  | none => exact P.elim
  | some a => exact ⟨a, rfl, P⟩
theorem two_ok {f : PyData → PyData → Option O} {os : List O} {o : O} (h : two f os = some o) : ∃ p q, os = [.d p, .d q] ∧ f p q = some o := by
  unfold two at h
  split at h
  · exact ⟨_, _, rfl, h⟩
  · cases h
theorem star_cons {x : Expr} {xs : List Expr} {env : PySem.Env} (h : notStar x = true) : starEach (x :: xs) env = (false, eval x env) :: starEach xs env := by
  cases x <;> first | rfl | (simp [notStar] at h)
theorem chkEs_star {N : List Str} {sc : Scope} : ∀ {cs : List CE} {xs : List Expr}, chkEs g N sc cs xs = true → allNotStar xs = true
  | [], [], _ => rfl
  | c :: cs, x :: xs, h => by
    simp only [chkEs, Bool.and_eq_true] at h
    simp only [allNotStar, Bool.and_eq_true]
    exact ⟨h.1.2, chkEs_star h.2⟩
  | [], _ :: _, h => by simp [chkEs] at h
  | _ :: _, [], h => by simp [chkEs] at h
theorem star_plain {env : PySem.Env} {pos : Pos} : ∀ {xs : List Expr}, allNotStar xs = true → (backTo pos (starEach xs env)).any (·.1) = false ∧ (backTo pos (starEach xs env)).all (fun x => !x.1) = true ∧ (starEach xs env).length = xs.length
  | [], _ => ⟨rfl, rfl, rfl⟩
  | x :: xs, h => by
    simp only [allNotStar, Bool.and_eq_true] at h
    obtain ⟨h1, h2, h3⟩ := star_plain (env := env) (pos := pos) h.2
    rw [star_cons h.1]
    unfold backTo at h1 h2 ⊢
    refine ⟨?_, ?_, by simp [h3]⟩
    · rw [List.map_cons, List.any_cons, h1]; rfl
    · rw [List.map_cons, List.all_cons, h2]; rfl
theorem plain_ix {x : Expr} (h : notSlice x = true) : PlainIx x := by
  intro o i
  cases x <;> first | rfl | (simp [notSlice] at h)
theorem base_ok {x : Expr} {nm : Str} {env : PySem.Env} {w : Sem Value} (h : baseOk x = true) : attributeBase x nm env w = w := by
  unfold attributeBase
  split
  · simp [baseOk] at h
  · rfl
theorem set_ok {x : Expr} {env : PySem.Env} (h : notSet x = true) : ∀ y, foldedSetIterable x env y = pure y := by
  intro y
  cases x <;> first | rfl | (simp [notSet] at h)
theorem truth_plain {x : Expr} {env : PySem.Env} (h : plainT x = true) (whole : Sem Value) : isTrue x env whole = (do let v ← whole; standAt x.pos; holding [v] (truthy v)) := by
  cases x with
  | UnaryOp op _ _ => cases op <;> first | rfl | (simp [plainT] at h)
  | BoolOp _ _ _ => simp [plainT] at h
  | IfExp _ _ _ _ => simp [plainT] at h
  | Compare _ _ _ _ => simp [plainT] at h
  | _ => rfl
/-- a value's truth, as a test -/
theorem truth_B {x : Expr} {m : M O} (hp : plainT x = true) (h : SO X W (wE X x) m) : SD X W relB (wB X x) (bnd m fun o => opt (truth (view o))) := by
  intro σ e HF H S R E P
  refine wB_of (pt_truth pe_W (fun whole => truth_plain hp whole)) ?_
  refine h σ e HF H S _ E ?_
  unfold bnd at P
  cases hm : m e with
  | bad => rw [hm] at P; exact P
  | ex y e1 => rw [hm] at P; exact P
  | ok o e1 =>
    rw [hm] at P
    intro v HF1 H1 S1 T st E1 r ap
    obtain ⟨k, h1, P⟩ := opt_okD P
    have vw := r.vw E1.sub
    obtain ⟨HF2, st2, E2, _⟩ := frz_ok E1 st r ap
    exact ⟨k, truth_ok E1.sub vw h1, P k HF2 H1 S1 st2 E2 rfl⟩
theorem call_blt {b : Blt} {x : Str} {p pos : Pos} {a : Expr} {as : List Expr} {t : TA} (h : x = bltName b) (hi : isIsi b = false) (hc : X.mg x = none) (hg : Gl X x) (ha : PA X (a :: as) t) (he : notStar a = true) (hp : allNotStar as = true) :
    PE X (.Call (.Name x p) (a :: as) [] pos) (tCB (cW X (bltV b)) t) := by
  subst h
  have s1 := star_cons (xs := as) (env := X.env) he
  have s2 := (star_plain (env := X.env) (pos := pos) hp).1
  cases b with
  | len => exact pe_callB cW_ok hg hc (by decide +kernel) ha (by decide) (by decide) s1 s2
  | abs => exact pe_callB cW_ok hg hc (by decide +kernel) ha (by decide) (by decide) s1 s2
  | int => exact pe_callTy cW_ok hg hc (by decide +kernel) ha (by decide) (by decide) s1 s2
  | str => exact pe_callTy cW_ok hg hc (by decide +kernel) ha (by decide) (by decide) s1 s2
  | list => exact pe_callTy cW_ok hg hc (by decide +kernel) ha (by decide) (by decide) s1 s2
  | tuple => exact pe_callTy cW_ok hg hc (by decide +kernel) ha (by decide) (by decide) s1 s2
  | max2 => exact pe_callB cW_ok hg hc (by decide +kernel) ha (by decide) (by decide) s1 s2
  | min2 => exact pe_callB cW_ok hg hc (by decide +kernel) ha (by decide) (by decide) s1 s2
  | max => exact pe_callB cW_ok hg hc (by decide +kernel) ha (by decide) (by decide) s1 s2
  | min => exact pe_callB cW_ok hg hc (by decide +kernel) ha (by decide) (by decide) s1 s2
  | sum => exact pe_callB cW_ok hg hc (by decide +kernel) ha (by decide) (by decide) s1 s2
  | sorted => exact pe_callB cW_ok hg hc (by decide +kernel) ha (by decide) (by decide) s1 s2
  | any => exact pe_callB cW_ok hg hc (by decide +kernel) ha (by decide) (by decide) s1 s2
  | all => exact pe_callB cW_ok hg hc (by decide +kernel) ha (by decide) (by decide) s1 s2
  | repr => exact pe_callB cW_ok hg hc (by decide +kernel) ha (by decide) (by decide) s1 s2
  | isi T => simp [isIsi] at hi
theorem call_mth {m : Mth} {nm : Str} {apos pos : Pos} {o a : Expr} {as : List Expr} {to : TE} {t : TA} (h : nm = mthName m) (hl : (apos.endLine == pos.line) = true) (hb : baseOk o = true) (ho : PE X o to) (ha : PA X (a :: as) t) (he : notStar a = true) (hp : allNotStar as = true) (hn : (a :: as).length < 30) :
    PE X (.Call (.Attribute o nm apos) (a :: as) [] pos) (tBM X.K "str" (mW X (mthId m)) to t) := by
  subst h
  have s1 := star_cons (xs := as) (env := X.env) he
  have s2 := (star_plain (env := X.env) (pos := pos) hp).1
  have hall : allNotStar (a :: as) = true := by simp only [allNotStar, Bool.and_eq_true]; exact ⟨he, hp⟩
  have few : ((backTo pos (starEach (a :: as) X.env)).all (fun x => !x.1) && (backToKw pos (keywordEach [] X.env)).all (fun x => x.1.isSome) && decide ((a :: as).length + ([] : List Keyword).length + (if ([] : List Keyword).isEmpty then 0 else 1) < 30)) = true := by
    rw [(star_plain (env := X.env) (pos := pos) hall).2.1]
    simpa [backToKw, keywordEach] using hn
  cases m with
  | lower => exact pe_bm PySem.F.plainAttrs_str PySem.F.slot_str_lower PySem.F.type_str_lower mW_ok ho ha (base_ok hb) few hl s1 s2
  | sindex => exact pe_bm PySem.F.plainAttrs_str PySem.F.slot_str_index PySem.F.type_str_index mW_ok ho ha (base_ok hb) few hl s1 s2
  | startswith => exact pe_bm PySem.F.plainAttrs_str PySem.F.slot_str_startswith PySem.F.type_str_startswith mW_ok ho ha (base_ok hb) few hl s1 s2
  | endswith => exact pe_bm PySem.F.plainAttrs_str PySem.F.slot_str_endswith PySem.F.type_str_endswith mW_ok ho ha (base_ok hb) few hl s1 s2
  | split => exact pe_bm PySem.F.plainAttrs_str PySem.F.slot_str_split PySem.F.type_str_split mW_ok ho ha (base_ok hb) few hl s1 s2
  | join => exact pe_bm PySem.F.plainAttrs_str PySem.F.slot_str_join PySem.F.type_str_join mW_ok ho ha (base_ok hb) few hl s1 s2
theorem call_mth0 {m : Mth} {nm : Str} {apos pos : Pos} {o : Expr} {to : TE} (h : nm = mthName m) (hl : (apos.endLine == pos.line) = true) (hb : baseOk o = true) (ho : PE X o to) :
    PE X (.Call (.Attribute o nm apos) [] [] pos) (tBM0 X.K "str" (mW X (mthId m)) to) := by
  subst h
  cases m with
  | lower => exact pe_bm0 PySem.F.plainAttrs_str PySem.F.slot_str_lower PySem.F.type_str_lower mW_ok ho (base_ok hb) hl
  | sindex => exact pe_bm0 PySem.F.plainAttrs_str PySem.F.slot_str_index PySem.F.type_str_index mW_ok ho (base_ok hb) hl
  | startswith => exact pe_bm0 PySem.F.plainAttrs_str PySem.F.slot_str_startswith PySem.F.type_str_startswith mW_ok ho (base_ok hb) hl
  | endswith => exact pe_bm0 PySem.F.plainAttrs_str PySem.F.slot_str_endswith PySem.F.type_str_endswith mW_ok ho (base_ok hb) hl
  | split => exact pe_bm0 PySem.F.plainAttrs_str PySem.F.slot_str_split PySem.F.type_str_split mW_ok ho (base_ok hb) hl
  | join => exact pe_bm0 PySem.F.plainAttrs_str PySem.F.slot_str_join PySem.F.type_str_join mW_ok ho (base_ok hb) hl
theorem allD_ok : ∀ {os : List O} {ds : List PyData}, allD os = some ds → os = ds.map O.d
  | [], ds, h => by cases h; rfl
  | .d x :: r, ds, h => by
    unfold allD at h
    cases q : allD r with
    | none => rw [q] at h; cases h
    | some l => rw [q] at h; cases h; rw [allD_ok q]; rfl
  | .lst _ :: _, ds, h => by cases h
  | .scr _ :: _, ds, h => by cases h
theorem cst_ok {d : PyData} {k : Const} {j : Nat} {pos : Pos} (h : cstOk d k = true) : ∃ v, PE X (.Constant k j pos) (tC v) ∧ ∀ HF, Rp X.K HF v d := by
  unfold cstOk at h
  split at h
  · exact ⟨_, pe_non, fun _ => .non⟩
  · cases eq_of_beq h
    exact ⟨_, pe_bl, fun _ => .bl _⟩
  · cases eq_of_beq h
    exact ⟨_, pe_int, fun _ => .int _⟩
  · cases of_decide_eq_true h
    exact ⟨_, pe_str, fun _ => .str _⟩
  · cases h
theorem rdT_ok {i : Nat} {x : Str} {p : Pos} (hN : X.N[i]? = some x) (hv : Vis X.env.scope x) (ok : okNm x = true) : SD X W (relT X.K) (wE X (.Name x p)) (rdT i) := by
  intro σ e HF H S Q E P
  obtain ⟨h1, h2, _⟩ := okNm_ok ok
  unfold rdT at P
  cases q : slot e i with
  | none => rw [q] at P; exact P.elim
  | some o =>
    rw [q] at P
    obtain ⟨v, h3, h4⟩ := E.val i o q
    exact wE_of (pe_var hN hv h1 h2) ⟨v, h3, PD.val P E h3⟩
/-- a name or another expression, as a token -/
theorem tk_ok {c : CE} {x : Expr} (h : chkE g X.N X.env.scope c x = true) (ih : SO X W (wE X x) (evE g.sig F c)) : SD X W (relT X.K) (wE X x) (tk c (evE g.sig F c)) := by
  cases c with
  | var i =>
    cases x with
    | Name x p =>
      simp only [chkE, Bool.and_eq_true] at h
      exact rdT_ok (of_decide_eq_true h.1.1) (visB_ok h.1.2) h.2
    | _ => simp [chkE] at h
  | _ => exact tok_of (fun i => nofun) ih
end
end Z
/-! Z9: every checked expression does as the evaluator says -/
namespace Z
open PySem PySem.Spec PyProof.Rows L2
section
variable {g : Cfg} {F : Fn}
theorem inv_cmp {N : List Str} {sc : Scope} {op : CmpOp} {a b : CE} {x : Expr} (h : chkE g N sc (.cmp op a b) x = true) : ∃ l y p, x = .Compare l [op] [y] p ∧ chkE g N sc a l = true ∧ chkE g N sc b y = true ∧ behindInMarks op y = false := by
  cases x with
  | Compare l ops ys p =>
    rcases ops with _ | ⟨o, _ | ⟨o2, os⟩⟩ <;> rcases ys with _ | ⟨y, _ | ⟨y2, ys⟩⟩ <;> simp only [chkE, Bool.false_eq_true] at h
    simp only [Bool.and_eq_true, Bool.not_eq_true'] at h
    obtain ⟨⟨⟨h1, h2⟩, h3⟩, h4⟩ := h
    cases of_decide_eq_true h1
    exact ⟨l, y, p, rfl, h2, h3, h4⟩
  | _ => simp [chkE] at h
theorem inv_chn {N : List Str} {sc : Scope} {op op' : CmpOp} {a b c : CE} {x : Expr} (h : chkE g N sc (.chn op op' a b c) x = true) : ∃ l y z p, x = .Compare l [op, op'] [y, z] p ∧ chkE g N sc a l = true ∧ chkE g N sc b y = true ∧ chkE g N sc c z = true ∧ lastMarks [op, op'] [y, z] = false := by
  cases x with
  | Compare l ops ys p =>
    rcases ops with _ | ⟨o, _ | ⟨o2, _ | ⟨o3, os⟩⟩⟩ <;> rcases ys with _ | ⟨y, _ | ⟨y2, _ | ⟨y3, ys⟩⟩⟩ <;> simp only [chkE, Bool.false_eq_true] at h
    simp only [Bool.and_eq_true, Bool.not_eq_true'] at h
    obtain ⟨⟨⟨⟨⟨h1, h2⟩, h3⟩, h4⟩, h5⟩, h6⟩ := h
    cases of_decide_eq_true h1
    cases of_decide_eq_true h2
    exact ⟨l, y, y2, p, rfl, h3, h4, h5, h6⟩
  | _ => simp [chkE] at h
theorem inv_slc {N : List Str} {sc : Scope} {a : CE} {lo hi : Option CE} {x : Expr} (h : chkE g N sc (.slc a lo hi) x = true) : ∃ y l u p p', x = .Subscript y (.Slice l u none p) p' ∧ chkE g N sc a y = true ∧ chkO g N sc lo l = true ∧ chkO g N sc hi u = true := by
  cases x with
  | Subscript y s p =>
    cases s with
    | Slice l u st p2 =>
      cases st with
      | none =>
        simp only [chkE, Bool.and_eq_true] at h
        exact ⟨y, l, u, p2, p, rfl, h.1.1, h.1.2, h.2⟩
      | some _ => simp [chkE] at h
    | _ => simp [chkE] at h
  | _ => simp [chkE] at h
theorem inv_idx {N : List Str} {sc : Scope} {a i : CE} {x : Expr} (h : chkE g N sc (.idx a i) x = true) : ∃ y s p, x = .Subscript y s p ∧ chkE g N sc a y = true ∧ chkE g N sc i s = true ∧ notSlice s = true := by
  cases x with
  | Subscript y s p =>
    simp only [chkE, Bool.and_eq_true] at h
    exact ⟨y, s, p, rfl, h.1.1, h.1.2, h.2⟩
  | _ => simp [chkE] at h
theorem inv_call {N : List Str} {sc : Scope} {k : Nat} {es : List CE} {x : Expr} (h : chkE g N sc (.call k es) x = true) : ∃ d nm y ys p p', x = .Call (.Name nm p) (y :: ys) [] p' ∧ g.T[k]? = some d ∧ d.name = nm ∧ glB sc nm = true ∧ okNm nm = true ∧ chkEs g N sc es (y :: ys) = true := by
  cases x with
  | Call f ys kws p =>
    cases f with
    | Name nm p2 =>
      rcases kws with _ | ⟨kw, kws⟩
      · simp only [chkE, Bool.and_eq_true] at h
        obtain ⟨⟨⟨⟨h1, h2⟩, h3⟩, h4⟩, h5⟩ := h
        cases q : g.T[k]? with
        | none => rw [q] at h1; cases h1
        | some d =>
          rw [q] at h1
          have h5 := of_decide_eq_true h5
          cases ys with
          | nil => exact (h5 rfl).elim
          | cons y ys => exact ⟨d, nm, y, ys, p2, p, rfl, rfl, of_decide_eq_true h1, h2, h3, h4⟩
      · simp [chkE] at h
    | _ => simp [chkE] at h
  | _ => simp [chkE] at h
theorem inv_mth {N : List Str} {sc : Scope} {m : Mth} {o : CE} {es : List CE} {x : Expr} (h : chkE g N sc (.mth m o es) x = true) : ∃ y nm ap ys p, x = .Call (.Attribute y nm ap) ys [] p ∧ nm = mthName m ∧ (ap.endLine == p.line) = true ∧ chkE g N sc o y = true ∧ baseOk y = true ∧ chkEs g N sc es ys = true ∧ ys.length < 30 := by
  cases x with
  | Call f ys kws p =>
    cases f with
    | Attribute y nm p2 =>
      rcases kws with _ | ⟨kw, kws⟩
      · simp only [chkE, Bool.and_eq_true] at h
        obtain ⟨⟨⟨⟨⟨h1, h2⟩, h3⟩, h4⟩, h5⟩, h6⟩ := h
        exact ⟨y, nm, p2, ys, p, rfl, of_decide_eq_true h1, h2, h3, h4, h5, of_decide_eq_true h6⟩
      · simp [chkE] at h
    | _ => simp [chkE] at h
  | _ => simp [chkE] at h
theorem inv_lc {N : List Str} {sc : Scope} {own : List (Str × Nat)} {t : Tg} {s : Src} {es ifs : List CE} {elt : CE} {x : Expr} (h : chkE g N sc (.lc own t s es ifs elt) x = true) : ∃ e tg iter is scope p, x = .ListComp e [⟨tg, iter, is, 0⟩] scope p ∧
    blkC N sc scope own = true ∧ chkS g N sc s es iter = true ∧ notSet iter = true ∧ chkT false N (relS scope sc) t tg = true ∧ tgIn (own.map (·.2)) t = true ∧ chkEs g N (relS scope sc) ifs is = true ∧ is.length ≤ 1 ∧ chkE g N (relS scope sc) elt e = true := by
  cases x with
  | ListComp e gs scope p =>
    rcases gs with _ | ⟨⟨tg, iter, is, asy⟩, _ | ⟨g2, gs⟩⟩
    · simp [chkE] at h
    · by_cases q : asy = 0
      · subst q
        simp only [chkE, Bool.and_eq_true] at h
        obtain ⟨⟨⟨⟨⟨⟨⟨h1, h2⟩, h3⟩, h4⟩, h5⟩, h6⟩, h7⟩, h8⟩ := h
        exact ⟨e, tg, iter, is, scope, p, rfl, h1, h2, h3, h4, h5, h6, of_decide_eq_true h7, h8⟩
      · unfold chkE at h
        split at h <;> simp_all
    · simp [chkE] at h
  | _ => simp [chkE] at h
theorem inv_rng1 {N : List Str} {sc : Scope} {c : CE} {it : Expr} (h : chkS g N sc .rng1 [c] it = true) : ∃ f x p p', it = .Call (.Name f p) [x] [] p' ∧ f = "range" ∧ g.B.contains f = true ∧ glB sc f = true ∧ chkE g N sc c x = true ∧ notStar x = true := by
  unfold chkS at h
  split at h
  · rename_i f y q
    obtain ⟨p, p', rfl⟩ := rngArgs1 q
    simp only [Bool.and_eq_true] at h
    exact ⟨f, y, p, p', rfl, of_decide_eq_true h.1.1.1.1, h.1.1.1.2, h.1.1.2, h.1.2, h.2⟩
  · cases h
theorem inv_rng2 {N : List Str} {sc : Scope} {c d : CE} {it : Expr} (h : chkS g N sc .rng2 [c, d] it = true) : ∃ f x y p p', it = .Call (.Name f p) [x, y] [] p' ∧ f = "range" ∧ g.B.contains f = true ∧ glB sc f = true ∧ chkE g N sc c x = true ∧ notStar x = true ∧ chkE g N sc d y = true ∧ notStar y = true := by
  unfold chkS at h
  split at h
  · rename_i f y z q
    obtain ⟨p, p', rfl⟩ := rngArgs2 q
    simp only [Bool.and_eq_true] at h
    exact ⟨f, y, z, p, p', rfl, of_decide_eq_true h.1.1.1.1.1.1, h.1.1.1.1.1.2, h.1.1.1.1.2, h.1.1.1.2, h.1.1.2, h.1.2, h.2⟩
  · cases h
theorem inv_blt {N : List Str} {sc : Scope} {b : Blt} {es : List CE} {x : Expr} (h : chkE g N sc (.blt b es) x = true) :
    (∃ T c nm y t p p' p'', b = .isi T ∧ es = [c] ∧ x = .Call (.Name nm p) [y, .Name t p'] [] p'' ∧ nm = "isinstance" ∧ g.B.contains nm = true ∧ glB sc nm = true ∧ chkE g N sc c y = true ∧ notStar y = true ∧ t = Str.ofString T ∧ g.B.contains t = true ∧ glB sc t = true ∧ okNm t = true ∧ bootBuiltins t = some (.type T)) ∨
    (∃ nm y ys p p', x = .Call (.Name nm p) (y :: ys) [] p' ∧ nm = bltName b ∧ isIsi b = false ∧ (b = .repr → g.gd = true) ∧ g.B.contains nm = true ∧ glB sc nm = true ∧ chkEs g N sc es (y :: ys) = true) := by
  have gen : ∀ {nm : Str} {ys : List Expr} {p p' : Pos}, (decide (nm = bltName b) && !isIsi b && (!decide (b = .repr) || g.gd) && g.B.contains nm && glB sc nm && chkEs g N sc es ys && decide (ys ≠ [])) = true → (∃ nm' y ys' p1 p1', Expr.Call (.Name nm p) ys [] p' = .Call (.Name nm' p1) (y :: ys') [] p1' ∧ nm' = bltName b ∧ isIsi b = false ∧ (b = .repr → g.gd = true) ∧ g.B.contains nm' = true ∧ glB sc nm' = true ∧ chkEs g N sc es (y :: ys') = true) := by
    intro nm ys p p' h
    simp only [Bool.and_eq_true, Bool.not_eq_true', Bool.or_eq_true] at h
    obtain ⟨⟨⟨⟨⟨⟨h1, h2⟩, h3⟩, h4⟩, h5⟩, h6⟩, h7⟩ := h
    have h7 := of_decide_eq_true h7
    cases ys with
    | nil => exact (h7 rfl).elim
    | cons y ys =>
      refine ⟨nm, y, ys, p, p', rfl, of_decide_eq_true h1, h2, fun e => ?_, h4, h5, h6⟩
      rcases h3 with h3 | h3
      · exact (of_decide_eq_false h3 e).elim
      · exact h3
  cases x with
  | Call f ys kws p =>
    cases f with
    | Name nm p2 =>
      rcases kws with _ | ⟨kw, kws⟩
      · cases b with
        | isi T =>
          rcases es with _ | ⟨c, _ | ⟨c2, es⟩⟩
          · simp [chkE, isIsi] at h
          · rcases ys with _ | ⟨y, _ | ⟨y2, _ | ⟨y3, ys⟩⟩⟩
            · simp [chkE, isIsi] at h
            · simp [chkE, isIsi] at h
            · cases y2 with
              | Name t p3 =>
                simp only [chkE, Bool.and_eq_true] at h
                obtain ⟨⟨⟨⟨⟨⟨⟨⟨⟨h1, h2⟩, h3⟩, h4⟩, h5⟩, h6⟩, h7⟩, h8⟩, h9⟩, h10⟩ := h
                exact .inl ⟨T, c, nm, y, t, p2, p3, p, rfl, rfl, rfl, of_decide_eq_true h1, h2, h3, h4, h5, of_decide_eq_true h6, h7, h8, h9, of_decide_eq_true h10⟩
              | _ => simp [chkE, isIsi] at h
            · simp [chkE, isIsi] at h
          · simp [chkE, isIsi] at h
        | _ => exact .inr (gen (by simpa only [chkE] using h))
      · cases b <;> simp [chkE] at h
    | _ => cases b <;> simp [chkE] at h
  | _ => cases b <;> simp [chkE] at h
/-- a comprehension, from its parts: its reading -/
theorem comp_rd {X : Cx} {W : WX} {n : Nat} (G : Gd g F X W n) {own : List (Str × Nat)} {t : Tg} {elt tg iter : Expr} {scope : Scope} {src : M (List PyData)} {test : M Bool} {em : M PyData}
    (ht : chkT false X.N (relS scope X.env.scope) t tg = true) (hin : tgIn (own.map (·.2)) t = true) (hI : SD X W (relW X.K) (wI X tg iter) src)
    {tt : TT} (hT : SD X Wf relB tt test)
    (hE : ∀ (s : Shared) (H : Hp) (C : Addr) (cl : List (Str × Addr)) (fp : List Addr), SD (X.blk s H scope (compEnvC scope cl C X.env) fp) Wf (relX X.K) (wE (X.blk s H scope (compEnvC scope cl C X.env) fp) elt) em) :
    ∃ te : TE, (∀ (s : Shared) (H : Hp) (C : Addr) (cl : List (Str × Addr)) (fp : List Addr), PG (X.blk s H scope (compEnvC scope cl C X.env) fp) tg (gT X.K t)) ∧
      (∀ (s : Shared) (H : Hp) (C : Addr) (cl : List (Str × Addr)) (fp : List Addr), PE (X.blk s H scope (compEnvC scope cl C X.env) fp) elt te) ∧
      SO X W (tLc (wI X tg iter) (gT X.K t) tt te (own.map (·.2))) (bnd src fun xs => compr (own.map (·.2)) t xs test em) := by
  refine ⟨fun σ H Q => ∀ (s : Shared) (H0 : Hp) (C : Addr) (cl : List (Str × Addr)) (fp : List Addr), wE (X.blk s H0 scope (compEnvC scope cl C X.env) fp) elt σ H Q, fun s H C cl fp =>
    pg_T (X := X.blk s H scope (compEnvC scope cl C X.env) fp) G.calm G.nd (ck := false) (fun z => Bool.noConfusion z) t tg ht, fun s H0 C cl fp => ⟨fun pins s1 σ H Q I h => h s H0 C cl fp pins s1 I⟩, fun σ e HF H S Q E P => ?_⟩
  exact hI.bndO E P fun items e1 hm J HF1 H1 S1 st E1 wk P1 => compr_ok hin wk E1 P1 hT fun σ e HF H S Q E P s H0 C cl fp => hE s H0 C cl fp σ e HF H S Q E P
theorem tests_nil {X : Cx} {scope : Scope} : (∀ (s : Shared) (H : Hp) (C : Addr) (cl : List (Str × Addr)) (fp : List Addr), PTs (X.blk s H scope (compEnvC scope cl C X.env) fp) [] tYes) ∧ SD X Wf relB tYes (ret true) :=
  ⟨fun _ _ _ _ _ => pts_nil, fun σ e HF H S Q E P => PD.val P E rfl⟩
theorem tests_one {X : Cx} {scope : Scope} {c : Expr} {m : M Bool} (h : ∀ (s : Shared) (H : Hp) (C : Addr) (cl : List (Str × Addr)) (fp : List Addr), SD (X.blk s H scope (compEnvC scope cl C X.env) fp) Wf relB (wB (X.blk s H scope (compEnvC scope cl C X.env) fp) c) m) :
    ∃ tt, (∀ (s : Shared) (H : Hp) (C : Addr) (cl : List (Str × Addr)) (fp : List Addr), PTs (X.blk s H scope (compEnvC scope cl C X.env) fp) [c] tt) ∧ SD X Wf relB tt m := by
  refine ⟨fun σ H Q => ∀ (s : Shared) (H0 : Hp) (C : Addr) (cl : List (Str × Addr)) (fp : List Addr), wB (X.blk s H0 scope (compEnvC scope cl C X.env) fp) c σ H Q, fun s H0 C cl fp => pts_one ⟨fun pins s1 σ H Q I q => q s H0 C cl fp pins s1 I⟩, ?_⟩
  exact fun σ e HF H S Q E P s H0 C cl fp => h s H0 C cl fp σ e HF H S Q E P
/-- what is walked: one thing -/
theorem src_seq {X : Cx} {W : WX} {tg iter : Expr} {m : M O} (h : SO X W (wE X iter) m) : SD X W (relW X.K) (wI X tg iter) (bnd m fun o => opt (itemsOf (view o))) := by
  intro σ e HF H S R E P
  have hR := las_of h
  have P2 : PD X W (relW X.K) HF H σ S (bnd (bnd m fun o => ret (view o)) (fun o => opt (itemsOf o)) e) R := by
    rw [bnd_assoc]; exact P
  cases hm : (bnd m fun o => ret (view o)) e with
  | bad =>
    unfold bnd at P2 hm
    rw [hm] at P2
    exact P2.elim
  | ex x e1 =>
    refine wI_of (pi_list pe_W) (hR.bndD E P2 fun a e2 hm2 => ?_)
    rw [hm] at hm2
    cases hm2
  | ok o e1 =>
    have fin : ∀ {a e2} {HF1 H1 : Hp} {S1 : Nat → Addr → Prop}, (bnd m fun o => ret (view o)) e = .ok a e2 → EnvR X.K HF1 H1 σ e2 S1 → PD X W (relW X.K) HF1 H1 σ S1 (opt (itemsOf a) e2) R → a = o ∧ ∃ items, itemsOf o = some items ∧ ∀ J, Wk X.K HF1 J items → R J H1 := by
      intro a e2 HF1 H1 S1 hm2 E2 P3
      rw [hm] at hm2
      cases hm2
      obtain ⟨items, h1, P4⟩ := opt_okD P3
      exact ⟨rfl, items, h1, fun J wk => P4 J HF1 H1 S1 Stp.refl E2 wk⟩
    cases o with
    | lst xs =>
      refine wI_of (pi_list pe_W) (hR.bndD E P2 fun a e2 hm2 v HF1 H1 S1 st E1 r P3 => ?_)
      obtain ⟨rfl, _⟩ := fin hm2 E1 P3
      exact r.elim
    | scr ns =>
      refine wI_of (pi_list pe_W) (hR.bndD E P2 fun a e2 hm2 v HF1 H1 S1 st E1 r P3 => ?_)
      obtain ⟨rfl, items, h1, k⟩ := fin hm2 E1 P3
      cases h1
      obtain ⟨a, rfl, ha⟩ := r
      exact ⟨a, rfl, ⟨_, seqL_mono E1.sub ha⟩, k _ (wk_list ha RpL.of_ints)⟩
    | d x =>
      cases x with
      | list xs =>
        refine wI_of (pi_list pe_W) (hR.bndD E P2 fun a e2 hm2 v HF1 H1 S1 st E1 r P3 => ?_)
        obtain ⟨rfl, items, h1, k⟩ := fin hm2 E1 P3
        cases h1
        have r : Rp X.K HF1 v (.list xs) := r
        cases r with
        | lst ha rr => exact ⟨_, rfl, ⟨_, SqL.of (E1.sub _ _ ha)⟩, k _ (wk_list (SqL.of ha) rr)⟩
      | tuple xs =>
        refine wI_of (pi_tup pe_W) (hR.bndD E P2 fun a e2 hm2 v HF1 H1 S1 st E1 r P3 => ?_)
        obtain ⟨rfl, items, h1, k⟩ := fin hm2 E1 P3
        cases h1
        have r : Rp X.K HF1 v (.tuple xs) := r
        cases r with
        | tup ha rr => exact ⟨_, rfl, ⟨_, seqT_mono E1.sub ha⟩, k _ (wk_tup ha rr)⟩
      | str x =>
        refine wI_of (pi_str pe_W) (hR.bndD E P2 fun a e2 hm2 v HF1 H1 S1 st E1 r P3 => ?_)
        obtain ⟨rfl, items, h1, k⟩ := fin hm2 E1 P3
        cases h1
        have r : Rp X.K HF1 v (.str x) := r
        cases r
        exact ⟨_, rfl, k _ (wk_str x)⟩
      | _ =>
        refine wI_of (pi_list pe_W) (hR.bndD E P2 fun a e2 hm2 v HF1 H1 S1 st E1 r P3 => ?_)
        obtain ⟨rfl, items, h1, _⟩ := fin hm2 E1 P3
        cases h1
theorem lc_tests {X : Cx} {W : WX} {n : Nat} (_G : Gd g F X W n) {scope : Scope} {ifs : List CE} {is : List Expr} (hl : is.length ≤ 1) (hc : chkEs g X.N (relS scope X.env.scope) ifs is = true)
    (ih : ∀ c x, ifs = [c] → is = [x] → ∀ (s : Shared) (H : Hp) (C : Addr) (cl : List (Str × Addr)) (fp : List Addr), SD (X.blk s H scope (compEnvC scope cl C X.env) fp) Wf relB (wB (X.blk s H scope (compEnvC scope cl C X.env) fp) x) (evB g.sig F c)) :
    ∃ tt, (∀ (s : Shared) (H : Hp) (C : Addr) (cl : List (Str × Addr)) (fp : List Addr), PTs (X.blk s H scope (compEnvC scope cl C X.env) fp) is tt) ∧ SD X Wf relB tt (evBs g.sig F ifs) := by
  rcases is with _ | ⟨x, _ | ⟨y, is⟩⟩
  · rcases ifs with _ | ⟨c, cs⟩
    · exact ⟨tYes, (tests_nil (X := X) (scope := scope)).1, (tests_nil (X := X) (scope := scope)).2⟩
    · simp [chkEs] at hc
  · rcases ifs with _ | ⟨c, _ | ⟨d, cs⟩⟩
    · simp [chkEs] at hc
    · exact tests_one (ih c x rfl rfl)
    · simp [chkEs] at hc
  · simp at hl
theorem okR_ok {i : Int} (h : okR i = true) : -(2 ^ 62) ≤ i ∧ i < 2 ^ 62 := by
  unfold okR at h
  exact of_decide_eq_true h
theorem source_rng1 {o : O} {items : List PyData} (h : source .rng1 [o] = some items) : ∃ j, o = .d (.int j) ∧ okR j = true ∧ items = rangeD 0 j.toNat := by
  cases o with
  | d x =>
    cases x with
    | int j =>
      have h : (if okR j then some (rangeD 0 j.toNat) else none) = some items := h
      split at h <;> cases h
      rename_i hj
      exact ⟨j, rfl, hj, rfl⟩
    | _ => cases h
  | _ => cases h
theorem source_rng2 {o o2 : O} {items : List PyData} (h : source .rng2 [o, o2] = some items) : ∃ i j, o = .d (.int i) ∧ o2 = .d (.int j) ∧ okR i = true ∧ okR j = true ∧ items = rangeD i (j - i).toNat := by
  cases o with
  | d x =>
    cases x with
    | int i =>
      cases o2 with
      | d y =>
        cases y with
        | int j =>
          have h : (if okR i && okR j then some (rangeD i (j - i).toNat) else none) = some items := h
          split at h <;> cases h
          rename_i hj
          obtain ⟨h1, h2⟩ := Bool.and_eq_true_iff.mp hj
          exact ⟨i, j, rfl, rfl, h1, h2, rfl⟩
        | _ => cases h
      | _ => cases h
    | _ => cases h
  | _ => cases h
theorem pe_one_and {X : Cx} {W : WX} {op : BoolOp} {a : Expr} {pos : Pos} {m : M O} (h : SO X W (wE X a) m) : SO X W (wE X (.BoolOp op [a] pos)) m := fun σ e HF H S Q E P => wE_of (pe_one pe_W) (h σ e HF H S Q E P)
theorem asBool_ok {K : PySem.W.Frag} {HF H : Hp} {v : V} {o : O} {T : Addr → Prop} {k : Bool} (r : Ow K HF H v o T) (h : asBool o = some k) : v = .bl k ∧ ∀ a, ¬ T a := by
  unfold asBool at h
  split at h
  · cases h
    obtain ⟨r, t⟩ := r
    have r : Rp K HF v (.bool k) := r
    cases r
    exact ⟨rfl, t⟩
  · cases h
/-- a bool first -/
theorem bool_bnd {X : Cx} {W : WX} {w : Z.St → Hp → VK → Prop} {m : M O} (h : SO X W w m) : SD X W (fun k v _ _ _ => v = V.bl k) w (bnd m fun x => opt (asBool x)) := by
  intro σ e HF H S Q E P
  refine h σ e HF H S Q E ?_
  unfold bnd at P
  cases hm : m e with
  | bad => rw [hm] at P; exact P
  | ex x e1 => rw [hm] at P; exact P
  | ok o e1 =>
    rw [hm] at P
    intro v HF1 H1 S1 T st E1 r ap
    obtain ⟨k, h1, P⟩ := opt_okD P
    obtain ⟨h2, h3⟩ := asBool_ok r h1
    exact P v HF1 H1 S1 (st.less fun a z => .inl z) E1 h2
mutual
theorem sndE : ∀ (c : CE) {X : Cx} {W : WX} {n : Nat} (G : Gd g F X W n) (x : Expr), chkE g X.N X.env.scope c x = true → SO X W (wE X x) (evE g.sig F c)
  | .cst d, X, W, n, G, x, h => by
    cases x with
    | Constant k j p =>
      intro σ e HF H S Q E P
      obtain ⟨v, hp, r⟩ := cst_ok (X := X) (j := j) (pos := p) (show cstOk d k = true from h)
      exact wE_of hp (PO.dat P E (r HF))
    | _ => simp [chkE] at h
  | .glb y d, X, W, n, G, x, h => by
    cases x with
    | Name x p =>
      intro σ e HF H S Q E P
      simp only [chkE, Bool.and_eq_true] at h
      obtain ⟨⟨⟨h1, h2⟩, h3⟩, h4⟩ := h
      have e1 := of_decide_eq_true h1
      subst e1
      cases q : g.C.lookup y with
      | none => rw [q] at h4; cases h4
      | some d' =>
        rw [q] at h4
        have e2 := pdEq_eq h4
        subst e2
        obtain ⟨u, v, m1, m2, m3⟩ := G.glb y _ q
        exact wE_of (pe_glob (gl_ok h2) m1 m2 (okNm_ok h3).1) (PO.dat P E (Rp.mono (fun a o z => by cases z) m3))
    | _ => simp [chkE] at h
  | .var i, X, W, n, G, x, h => by
    cases x with
    | Name x p =>
      intro σ e HF H S Q E P
      simp only [chkE, Bool.and_eq_true] at h
      obtain ⟨⟨h1, h2⟩, h3⟩ := h
      obtain ⟨n1, n2, _⟩ := okNm_ok h3
      refine wE_of (pe_var (of_decide_eq_true h1) (visB_ok h2) n1 n2) ?_
      cases q : slot e i with
      | none =>
        have P : PO X W HF H σ S (rdF i e) Q := P
        unfold rdF at P
        rw [q] at P
        exact P.elim
      | some o =>
        obtain ⟨v, h4, h5⟩ := E.val i o q
        obtain ⟨_, _, r⟩ := rdF_ok (v := v) E (fun _ _ => h4) P
        exact ⟨v, h4, r⟩
    | _ => simp [chkE] at h
  | .mov i, X, W, n, G, x, h => by
    cases x with
    | Name x p =>
      intro σ e HF H S Q E P
      simp only [chkE, Bool.and_eq_true] at h
      obtain ⟨⟨h1, h2⟩, h3⟩ := h
      obtain ⟨n1, n2, _⟩ := okNm_ok h3
      refine wE_of (pe_var (of_decide_eq_true h1) (visB_ok h2) n1 n2) ?_
      have P : PO X W HF H σ S (mv i e) Q := P
      unfold mv at P
      cases q : slot e i with
      | none => rw [q] at P; exact P.elim
      | some o =>
        rw [q] at P
        obtain ⟨v, h4, h5⟩ := E.val i o q
        refine ⟨v, h4, P v HF H _ (S i) ?_ (E.drop i) h5 fun a z => ⟨E.fre i a z, fun ⟨j, w⟩ => ?_⟩⟩
        · exact Stp.refl.less fun a z => z.elim (fun z => (U_put z).elim id False.elim) fun z => ⟨i, z⟩
        · by_cases q2 : j = i
          · rw [q2, putS_same] at w; exact w
          · rw [putS_ne q2] at w
            exact q2 (E.dis j i a w z)
    | _ => simp [chkE] at h
  | .tup es, X, W, n, G, x, h => by
    cases x with
    | Tuple xs k p =>
      intro σ e HF H S Q E P
      refine wE_of (pe_tup pa_W) ((sndDs es G xs h).bndO E P fun ds e1 hm vs HF1 H1 S1 st E1 r P1 => ?_)
      unfold chkL at P1
      split at P1
      · rename_i hz
        exact ⟨by rw [RpL.length r]; exact lim_ok hz, (gv_of E1 P1).t E1.sub r⟩
      · exact P1.elim
    | _ => simp [chkE] at h
  | .lst es, X, W, n, G, x, h => by
    cases x with
    | List xs p =>
      intro σ e HF H S Q E P
      refine wE_of (pe_lst pa_W) ((sndDs es G xs h).bndO E P fun ds e1 hm vs HF1 H1 S1 st E1 r P1 => ?_)
      unfold chkL at P1
      split at P1
      · rename_i hz
        exact ⟨by rw [RpL.length r]; exact lim_ok hz, (gv_of E1 P1).l E1.sub r⟩
      · exact P1.elim
    | _ => simp [chkE] at h
  | .bin op a b, X, W, n, G, x, h => by
    cases x with
    | BinOp l op' r p =>
      intro σ e HF H S Q E P
      simp only [chkE, Bool.and_eq_true] at h
      obtain ⟨⟨h1, h2⟩, h3⟩ := h
      have e1 := of_decide_eq_true h1
      subst e1
      refine wE_of (pe_op rW_ok pe_W pe_W) ((tk_ok h2 (sndE a G l h2)).bndO E P fun t1 e1 _ v1 HF1 H1 S1 st1 E1 r1 P1 => ?_)
      refine (tk_ok h3 (sndE b G r h3)).bndO E1 P1 fun t2 e2 _ v2 HF2 H2 S2 st2 E2 r2 P2 => ?_
      obtain ⟨os, o, q1, q2, P3⟩ := withT_ok P2
      obtain ⟨p, q, rfl, q3⟩ := two_ok q2
      obtain ⟨w1, w2, e3, vw1, vw2⟩ := (lates_vw E2 (.cons (TokR.mono st2.grow r1) (.cons r2 .nil)) q1).two
      cases e3
      exact binop_ok E2.sub vw1 vw2 q3 (gv_of E2 P3)
    | _ => simp [chkE] at h
  | .neg a, X, W, n, G, x, h => by
    cases x with
    | UnaryOp op y p =>
      cases op with
      | USub =>
        intro σ e HF H S Q E P
        refine wE_of (pe_un un_neg pe_W) ((dat_of (sndE a G y h)).bndO E P fun d e1 _ v HF1 H1 S1 st E1 r P1 => ?_)
        obtain ⟨o, q, P2⟩ := opt_ok P1
        cases d with
        | int i =>
          cases q
          cases r
          exact ⟨i, rfl, PO.dat P2 E1 (.int _)⟩
        | _ => cases q
      | _ => simp [chkE] at h
    | _ => simp [chkE] at h
  | .not a, X, W, n, G, x, h => by
    cases x with
    | UnaryOp op y p =>
      cases op with
      | Not =>
        intro σ e HF H S Q E P
        refine wE_of (pe_notT pe_W) ((tk_ok (show chkE g X.N X.env.scope a y = true from h) (sndE a G y h)).bndO E P fun t e1 _ v HF1 H1 S1 st E1 r P1 => ?_)
        obtain ⟨os, o, q1, q2, P3⟩ := withT_ok P1
        have vw := lates_vw E1 (.cons r .nil) q1
        split at q2
        · rename_i o'
          cases q3 : truth o' with
          | none => rw [q3] at q2; cases q2
          | some k =>
            rw [q3] at q2
            cases q2
            obtain ⟨w, e2, vw⟩ := vw.one
            cases e2
            exact ⟨k, truth_ok E1.sub vw q3, PO.dat P3 E1 (.bl _)⟩
        · cases q2
      | _ => simp [chkE] at h
    | _ => simp [chkE] at h
  | .and es, X, W, n, G, x, h => by
    cases x with
    | BoolOp op xs p =>
      cases op with
      | And => exact sndAnd es G xs p h
      | Or => simp [chkE] at h
    | _ => simp [chkE] at h
  | .or es, X, W, n, G, x, h => by
    cases x with
    | BoolOp op xs p =>
      cases op with
      | Or => exact sndOr es G xs p h
      | And => simp [chkE] at h
    | _ => simp [chkE] at h
  | .cmp op a b, X, W, n, G, x, h => by
    obtain ⟨l, y, p, rfl, h1, h2, h3⟩ := inv_cmp h
    intro σ e HF H S Q E P
    refine wE_of (pe_cmpR rW_ok pe_W pe_W h3) ((tk_ok h1 (sndE a G l h1)).bndO E P fun t1 e1 _ v1 HF1 H1 S1 st1 E1 r1 P1 => ?_)
    refine (tk_ok h2 (sndE b G y h2)).bndO E1 P1 fun t2 e2 _ v2 HF2 H2 S2 st2 E2 r2 P2 => ?_
    obtain ⟨os, o, q1, q2, P3⟩ := withT_ok P2
    obtain ⟨d1, d2, rfl, q3⟩ := two_ok q2
    obtain ⟨w1, w2, e3, vw1, vw2⟩ := (lates_vw E2 (.cons (TokR.mono st2.grow r1) (.cons r2 .nil)) q1).two
    cases e3
    cases q4 : cmpop op d1 d2 with
    | none => rw [q4] at q3; cases q3
    | some k =>
      rw [q4] at q3
      cases q3
      exact cmpop_ok G.hu E2.sub vw1 vw2 q4 (PO.dat P3 E2 (.bl _))
  | .chn op op' a b c, X, W, n, G, x, h => by
    obtain ⟨l, y, z, p, rfl, h1, h2, h3, h4⟩ := inv_chn h
    intro σ e HF H S Q E P
    refine wE_of (pe_chain rW_ok rW_ok pe_W pe_W pe_W h4) ((dat_of (sndE a G l h1)).bndO E P fun d1 e1 _ v1 HF1 H1 S1 st1 E1 r1 P1 => ?_)
    refine (dat_of (sndE b G y h2)).bndO E1 P1 fun d2 e2 _ v2 HF2 H2 S2 st2 E2 r2 P2 => ?_
    obtain ⟨k, q1, P3⟩ := bopt_ok P2
    have r1' : RO X.K HF2 v1 (.d d1) := Rp.mono st2.grow r1
    have r2' : RO X.K HF2 v2 (.d d2) := r2
    refine cmpop_ok G.hu E2.sub (RO.vw E2.sub r1') (RO.vw E2.sub r2') q1 ⟨k, rfl, ?_⟩
    cases k with
    | false => exact iteF (PO.dat P3 E2 (.bl _))
    | true =>
      refine iteT ((dat_of (sndE c G z h3)).bndO E2 P3 fun d3 e3 _ v3 HF3 H3 S3 st3 E3 r3 P4 => ?_)
      obtain ⟨o, q2, P5⟩ := opt_ok P4
      have r2'' : RO X.K HF3 v2 (.d d2) := Rp.mono st3.grow r2
      have r3' : RO X.K HF3 v3 (.d d3) := r3
      cases q4 : cmpop op' d2 d3 with
      | none => rw [q4] at q2; cases q2
      | some k =>
        rw [q4] at q2
        cases q2
        exact cmpop_ok G.hu E3.sub (RO.vw E3.sub r2'') (RO.vw E3.sub r3') q4 (PO.dat P5 E3 (.bl _))
  | .ife c a b, X, W, n, G, x, h => by
    cases x with
    | IfExp t y z p =>
      simp only [chkE, Bool.and_eq_true] at h
      obtain ⟨⟨h1, h2⟩, h3⟩ := h
      intro σ e HF H S Q E P
      refine wE_of (pe_ifExp pt_W pe_W pe_W) ((sndB c G t h1).bndO E P fun k e1 _ k' HF1 H1 S1 st1 E1 r1 P1 => ?_)
      have r1 : k' = k := r1
      subst r1
      cases k' with
      | true => exact iteT (sndE a G y h2 σ e1 HF1 H1 S1 Q E1 P1)
      | false => exact iteF (sndE b G z h3 σ e1 HF1 H1 S1 Q E1 P1)
    | _ => simp [chkE] at h
  | .idx a i, X, W, n, G, x, h => by
    obtain ⟨y, s, p, rfl, h1, h2, h3⟩ := inv_idx h
    intro σ e HF H S Q E P
    refine wE_of (pe_ix ix_seq pe_W pe_W (plain_ix h3)) ((tk_ok h1 (sndE a G y h1)).bndO E P fun t1 e1 _ v1 HF1 H1 S1 st1 E1 r1 P1 => ?_)
    refine (tk_ok h2 (sndE i G s h2)).bndO E1 P1 fun t2 e2 _ v2 HF2 H2 S2 st2 E2 r2 P2 => ?_
    obtain ⟨os, o, q1, q2, P3⟩ := withT_ok P2
    obtain ⟨d1, d2, rfl, q3⟩ := two_ok q2
    obtain ⟨w1, w2, e3, vw1, vw2⟩ := (lates_vw E2 (.cons (TokR.mono st2.grow r1) (.cons r2 .nil)) q1).two
    cases e3
    cases q4 : index d1 d2 with
    | none => rw [q4] at q3; cases q3
    | some d =>
      rw [q4] at q3
      cases q3
      exact index_ok E2.sub vw1 vw2 q4 fun v r => PO.dat P3 E2 r
  | .slc a lo hi, X, W, n, G, x, h => by
    obtain ⟨y, l, u, p, p', rfl, h1, h2, h3⟩ := inv_slc h
    intro σ e HF H S Q E P
    refine wE_of (pe_slice sl_any pe_W po_W po_W) ((tk_ok h1 (sndE a G y h1)).bndO E P fun t1 e1 _ v1 HF1 H1 S1 st1 E1 r1 P1 => ?_)
    refine (sndO lo G l h2).bndO E1 P1 fun i1 e2 _ i1' HF2 H2 S2 st2 E2 r2 P2 => ?_
    refine (sndO hi G u h3).bndO E2 P2 fun i2 e3 _ i2' HF3 H3 S3 st3 E3 r3 P3 => ?_
    have r2 : i1' = i1 := r2
    have r3 : i2' = i2 := r3
    subst r2 r3
    obtain ⟨os, o, q1, q2, P4⟩ := withT_ok P3
    have vw := lates_vw E3 (.cons (TokR.mono (fun a o h => st3.grow a o (st2.grow a o h)) r1) .nil) q1
    split at q2
    · obtain ⟨w, e4, vw⟩ := vw.one
      cases e4
      exact slice_ok E3.sub vw q2 (gv_of E3 P4)
    · cases q2
  | .call k es, X, W, n, G, x, h => by
    obtain ⟨d, nm, y, ys, p, p', rfl, h1, h2, h3, h4, h5⟩ := inv_call h
    intro σ e HF H S Q E P
    obtain ⟨f, fd, m1, m2, m3, m4⟩ := G.fn k d h1
    rw [h2] at m1
    have hs := chkEs_star h5
    have hs2 : notStar y = true ∧ allNotStar ys = true := by simpa only [allNotStar, Bool.and_eq_true] using hs
    refine wE_of (pe_own m4 G.tk G.room G.gd (gl_ok h3) m1 m2 m3 pa_W (okNm_ok h4).1 (star_cons hs2.1) (star_plain hs2.2).1) ?_
    exact (sndAs (g.sig k) es G (y :: ys) h5).bndO E P fun ts e1 _ vs HF1 H1 S1 st1 E1 r1 P1 => call_ok E1 r1 P1
  | .blt b es, X, W, n, G, x, h => by
    intro σ e HF H S Q E P
    rcases inv_blt h with ⟨T, c, nm, y, t, p, p', p'', rfl, rfl, rfl, h1, h2, h3, h4, h5, h6, h7, h8, h9, h10⟩ | ⟨nm, y, ys, p, p', rfl, h1, h2, h3, h4, h5, h6⟩
    · subst h1
      obtain ⟨n1, n2, n3⟩ := okNm_ok h9
      have ha : PA X [y, .Name t p'] (tCons (wE X y) (tCons (tC (.ty T)) tNil)) := pa_cons pe_W (pa_cons (pe_bltn (v := .ty T) (gl_ok h8) (G.blt t h7) h10 rfl n3 n1) pa_nil) (star_cons h5)
      refine wE_of (pe_callB (cW_ok (f := .builtin "isinstance")) (gl_ok h3) (G.blt _ h2) (by decide +kernel) ha (by decide) (by decide) (star_cons h5) rfl) ?_
      have P' : PO X W HF H σ S (bnd (bnd (tk c (evE g.sig F c)) fun x => bnd (evTs g.sig F []) fun xs => ret (x :: xs)) (fun ts => withT ts (blt (.isi T))) e) Q := P
      rw [bnd_assoc] at P'
      refine (tk_ok h4 (sndE c G y h4)).bndO E P' fun t1 e1 _ v1 HF1 H1 S1 st1 E1 r1 P1 => ?_
      obtain ⟨os, o, q1, q2, P2⟩ := withT_ok (show PO X W HF1 H1 σ S1 (withT [t1] (blt (.isi T)) e1) Q from P1)
      exact blt_ok (b := .isi T) (fun z => nomatch z) G.calm G.hu E1.sub (lates_vw E1 (.cons r1 .nil) q1) q2 (gv_of E1 P2)
    · have hs2 : notStar y = true ∧ allNotStar ys = true := by simpa only [allNotStar, Bool.and_eq_true] using chkEs_star h6
      refine wE_of (call_blt h1 h2 (G.blt _ h4) (gl_ok h5) pa_W hs2.1 hs2.2) ?_
      refine (sndTs es G (y :: ys) h6).bndO E P fun ts e1 _ vs HF1 H1 S1 st1 E1 r1 P1 => ?_
      obtain ⟨os, o, q1, q2, P2⟩ := withT_ok P1
      have q := blt_ok (Q := Q) (fun _ => G.gd) G.calm G.hu E1.sub (lates_vw E1 r1 q1) q2 (gv_of E1 P2)
      have e2 : bltX b vs = vs := by cases b <;> first | rfl | (simp [isIsi] at h2)
      rw [e2] at q
      exact q
  | .mth m o es, X, W, n, G, x, h => by
    obtain ⟨y, nm, ap, ys, p, rfl, h1, h2, h3, h4, h5, h6⟩ := inv_mth h
    intro σ e HF H S Q E P
    have fin : ∀ {d e1 v1} {HF1 H1 : Hp} {S1 : Nat → Addr → Prop}, EnvR X.K HF1 H1 σ e1 S1 → Rp X.K HF1 v1 d → PO X W HF1 H1 σ S1 (bnd (opt (asStr d)) (fun _ => bnd (evTs g.sig F es) fun ts => withT ts (mthL m d)) e1) Q →
        tyV X.K "str" v1 H1 ∧ wA X ys σ H1 fun xs H2 => mW X (mthId m) v1 xs H2 Q := by
      intro d e1 v1 HF1 H1 S1 E1 r1 P1
      obtain ⟨z, q0, P2⟩ := bopt_ok P1
      cases d with
      | str z2 =>
        have hv : v1 = .str z2 := by cases r1; rfl
        subst hv
        refine ⟨rfl, (sndTs es G ys h5).bndO E1 P2 fun ts e2 _ vs HF2 H2 S2 st2 E2 r2 P3 => ?_⟩
        obtain ⟨os, o, q1, q2, P4⟩ := withT_ok P3
        cases q3 : allD os with
        | none => unfold mthL at q2; rw [q3] at q2; cases q2
        | some ds =>
          unfold mthL at q2
          rw [q3] at q2
          have vw := lates_vw E2 r2 q1
          rw [allD_ok q3] at vw
          exact (mth_ok E2.sub (show Vw X.K HF2 H2 (.str z2) (.d (.str z2)) from Rp.str z2) vw q2 (gv_of E2 P4)).2
      | _ => cases q0
    cases ys with
    | nil =>
      refine wE_of (call_mth0 h1 h2 h4 pe_W) ((dat_of (sndE o G y h3)).bndO E P fun d e1 _ v1 HF1 H1 S1 st1 E1 r1 P1 => ?_)
      obtain ⟨f1, f2⟩ := fin E1 r1 P1
      refine ⟨f1, ?_⟩
      intro pins s σ' v us I rx rs
      cases rs
      -- no arguments: what is wanted behind the empty list holds here
      obtain ⟨z, q0, P2⟩ := bopt_ok P1
      cases d with
      | str z2 =>
        have hv : v1 = .str z2 := by cases r1; rfl
        subst hv
        cases es with
        | cons c cs => simp [chkEs] at h5
        | nil =>
          obtain ⟨os, o, q1, q2, P4⟩ := withT_ok (show PO X W HF1 H1 σ S1 (withT [] (mthL m (.str z2)) e1) Q from P2)
          cases q1
          exact (mth_ok E1.sub (show Vw X.K HF1 H1 (.str z2) (.d (.str z2)) from Rp.str z2) (ds := []) .nil q2 (gv_of E1 P4)).2 pins s σ' v [] I rx .nil
      | _ => cases q0
    | cons a as =>
      have hs2 : notStar a = true ∧ allNotStar as = true := by simpa only [allNotStar, Bool.and_eq_true] using chkEs_star h5
      exact wE_of (call_mth h1 h2 h4 pe_W pa_W hs2.1 hs2.2 h6) ((dat_of (sndE o G y h3)).bndO E P fun d e1 _ v1 HF1 H1 S1 st1 E1 r1 P1 => fin E1 r1 P1)
  | .lc own t s es ifs elt, X, W, n, G, x, h => by
    obtain ⟨el, tg, iter, is, scope, p, rfl, h1, h2, h3, h4, h5, h6, h7, h8⟩ := inv_lc h
    obtain ⟨tt, hpt, hT⟩ := lc_tests G h7 h6 fun c x e1 e2 s H C cl fp => by
      subst e1 e2
      have h6' : chkE g X.N (relS scope X.env.scope) c x = true := by
        simp only [chkEs, Bool.and_eq_true] at h6
        exact h6.1.1
      exact sndB c (G.blk s H scope (compEnvC scope cl C X.env) fp) x h6'
    obtain ⟨te, hg, hpe, q⟩ := comp_rd (own := own) G h4 h5 (sndS s es G tg iter h2) hT fun s H C cl fp => dat_of (sndE elt (G.blk s H scope (compEnvC scope cl C X.env) fp) el h8)
    rw [bnd_assoc] at q
    exact fun σ e HF H S Q E P => wE_of (pe_lc (own := own) G.calm G.nd pi_W (blkOk_by h1) hg hpt hpe (set_ok h3)) (q σ e HF H S Q E P)
termination_by c => (sizeOf c, 0)
theorem sndB : ∀ (c : CE) {X : Cx} {W : WX} {n : Nat} (G : Gd g F X W n) (x : Expr), chkE g X.N X.env.scope c x = true → SD X W relB (wB X x) (evB g.sig F c)
  | .not a, X, W, n, G, x, h => by
    cases x with
    | UnaryOp op y p =>
      cases op with
      | Not =>
        intro σ e HF H S Q E P
        refine wB_of (pt_not pt_W) ((sndB a G y h).bndD E P fun k e1 _ k' HF1 H1 S1 st1 E1 r1 P1 => ?_)
        have r1 : k' = k := r1
        subst r1
        exact PD.val P1 E1 rfl
      | _ => simp [chkE] at h
    | _ => simp [chkE] at h
  | .and es, X, W, n, G, x, h => by
    cases x with
    | BoolOp op xs p =>
      cases op with
      | And =>
        intro σ e HF H S Q E P
        obtain ⟨t, h1, h2⟩ := sndAndB es G xs p h σ e HF H S Q E P
        exact wB_of (PW.pt h1) h2
      | Or => simp [chkE] at h
    | _ => simp [chkE] at h
  | .or es, X, W, n, G, x, h => by
    cases x with
    | BoolOp op xs p =>
      cases op with
      | Or =>
        intro σ e HF H S Q E P
        obtain ⟨t, h1, h2⟩ := sndOrB es G xs p h σ e HF H S Q E P
        exact wB_of (PW.pt h1) h2
      | And => simp [chkE] at h
    | _ => simp [chkE] at h
  | .cst d, X, W, n, G, x, h => by
    cases x with
    | Constant k j p =>
      intro σ e HF H S Q E P
      obtain ⟨v, hp, r⟩ := cst_ok (X := X) (j := j) (pos := p) (show cstOk d k = true from h)
      obtain ⟨b, q, P1⟩ := opt_okD P
      exact wB_of (pt_truth hp (fun _ => rfl)) ⟨b, truth_ok E.sub (RO.vw (o := .d d) E.sub (r HF)) q, PD.val P1 E rfl⟩
    | _ => simp [chkE] at h
  | .glb y d, X, W, n, G, x, h => by
    cases x with
    | Name x p =>
      have q := truth_B (x := .Name x p) rfl (sndE (.glb y d) G (.Name x p) h)
      intro σ e HF H S Q E P
      refine q σ e HF H S Q E ?_
      have P : PD X W relB HF H σ S (opt (truth (.d d)) e) Q := P
      show PD X W relB HF H σ S (opt (truth (.d d)) e) Q
      exact P
    | _ => simp [chkE] at h
  | .var i, X, W, n, G, x, h => by
    cases x with
    | Name x p =>
      have h0 := h
      simp only [chkE, Bool.and_eq_true] at h
      intro σ e HF H S Q E P
      refine wB_of (pt_truth pe_W (fun _ => rfl)) ((rdT_ok (W := W) (of_decide_eq_true h.1.1) (visB_ok h.1.2) h.2).bndD E P fun t e1 _ v HF1 H1 S1 st1 E1 r1 P1 => ?_)
      obtain ⟨os, k, q1, q2, P2⟩ := withT_okD P1
      have vw := lates_vw E1 (.cons r1 .nil) q1
      split at q2
      · obtain ⟨w, e2, vw⟩ := vw.one
        cases e2
        exact ⟨k, truth_ok E1.sub vw q2, PD.val P2 E1 rfl⟩
      · cases q2
    | _ => simp [chkE] at h
  | .mov i, X, W, n, G, x, h => fun σ e HF H S Q E P => P.elim
  | .tup es, X, W, n, G, x, h => fun σ e HF H S Q E P => P.elim
  | .lst es, X, W, n, G, x, h => fun σ e HF H S Q E P => P.elim
  | .bin op a b, X, W, n, G, x, h => by
    have hp : plainT x = true := by cases x <;> first | rfl | (simp [chkE] at h)
    exact truth_B hp (sndE (.bin op a b) G x h)
  | .neg a, X, W, n, G, x, h => fun σ e HF H S Q E P => P.elim
  | .cmp op a b, X, W, n, G, x, h => by
    obtain ⟨l, y, p, rfl, h1, h2, h3⟩ := inv_cmp h
    intro σ e HF H S Q E P
    refine wB_of (pt_cmpR rW_ok pe_W pe_W h3) ((tk_ok h1 (sndE a G l h1)).bndD E P fun t1 e1 _ v1 HF1 H1 S1 st1 E1 r1 P1 => ?_)
    refine (tk_ok h2 (sndE b G y h2)).bndD E1 P1 fun t2 e2 _ v2 HF2 H2 S2 st2 E2 r2 P2 => ?_
    obtain ⟨os, k, q1, q2, P3⟩ := withT_okD P2
    have vw := lates_vw E2 (.cons (TokR.mono st2.grow r1) (.cons r2 .nil)) q1
    split at q2
    · obtain ⟨w1, w2, e3, vw1, vw2⟩ := vw.two
      cases e3
      exact cmpop_ok G.hu E2.sub vw1 vw2 q2 ⟨k, rfl, PD.val P3 E2 rfl⟩
    · cases q2
  | .chn op op' a b c, X, W, n, G, x, h => by
    obtain ⟨l, y, z, p, rfl, h1, h2, h3, h4⟩ := inv_chn h
    intro σ e HF H S Q E P
    refine wB_of (pt_chain rW_ok rW_ok pe_W pe_W pe_W h4) ((dat_of (sndE a G l h1)).bndD E P fun d1 e1 _ v1 HF1 H1 S1 st1 E1 r1 P1 => ?_)
    refine (dat_of (sndE b G y h2)).bndD E1 P1 fun d2 e2 _ v2 HF2 H2 S2 st2 E2 r2 P2 => ?_
    obtain ⟨k, q1, P3⟩ := bopt_okD P2
    have r1' : RO X.K HF2 v1 (.d d1) := Rp.mono st2.grow r1
    have r2' : RO X.K HF2 v2 (.d d2) := r2
    refine cmpop_ok G.hu E2.sub (RO.vw E2.sub r1') (RO.vw E2.sub r2') q1 ⟨k, rfl, ?_⟩
    cases k with
    | false => exact iteF ⟨false, rfl, PD.val P3 E2 rfl⟩
    | true =>
      refine iteT ((dat_of (sndE c G z h3)).bndD E2 P3 fun d3 e3 _ v3 HF3 H3 S3 st3 E3 r3 P4 => ?_)
      obtain ⟨k2, q2, P5⟩ := opt_okD P4
      have r2'' : RO X.K HF3 v2 (.d d2) := Rp.mono st3.grow r2
      have r3' : RO X.K HF3 v3 (.d d3) := r3
      exact cmpop_ok G.hu E3.sub (RO.vw E3.sub r2'') (RO.vw E3.sub r3') q2 ⟨k2, rfl, PD.val P5 E3 rfl⟩
  | .ife c a b, X, W, n, G, x, h => fun σ e HF H S Q E P => P.elim
  | .idx a i, X, W, n, G, x, h => by
    have hp : plainT x = true := by cases x <;> first | rfl | (simp [chkE] at h)
    exact truth_B hp (sndE (.idx a i) G x h)
  | .slc a lo hi, X, W, n, G, x, h => fun σ e HF H S Q E P => P.elim
  | .call k es, X, W, n, G, x, h => by
    have hp : plainT x = true := by cases x <;> first | rfl | (simp [chkE] at h)
    exact truth_B hp (sndE (.call k es) G x h)
  | .blt b es, X, W, n, G, x, h => by
    have hp : plainT x = true := by
      rcases inv_blt h with ⟨T, c, nm, y, t, p, p', p'', rfl, rfl, rfl, _⟩ | ⟨nm, y, ys, p, p', rfl, _⟩ <;> rfl
    exact truth_B hp (sndE (.blt b es) G x h)
  | .mth m o es, X, W, n, G, x, h => by
    have hp : plainT x = true := by
      obtain ⟨y, nm, ap, ys, p, rfl, _⟩ := inv_mth h
      rfl
    exact truth_B hp (sndE (.mth m o es) G x h)
  | .lc own t s es ifs elt, X, W, n, G, x, h => by
    have hp : plainT x = true := by
      obtain ⟨el, tg, iter, is, scope, p, rfl, _⟩ := inv_lc h
      rfl
    exact truth_B hp (sndE (.lc own t s es ifs elt) G x h)
termination_by c => (sizeOf c, 1)
theorem sndAndB : ∀ (cs : List CE) {X : Cx} {W : WX} {n : Nat} (G : Gd g F X W n) (xs : List Expr) (p : Pos), chkEs g X.N X.env.scope cs xs = true → ∀ σ e HF H S (Q : Bool → Hp → Prop), EnvR X.K HF H σ e S → PD X W relB HF H σ S (evAndB g.sig F cs e) Q →
    ∃ t, PW X (.BoolOp .And xs p) t ∧ t σ H Q
  | [], X, W, n, G, xs, p, h => fun σ e HF H S Q E P => P.elim
  | [c], X, W, n, G, [x], p, h => by
    simp only [chkEs, Bool.and_eq_true] at h
    intro σ e HF H S Q E P
    exact ⟨_, pw_and1 pt_W, sndB c G x h.1.1 σ e HF H S Q E P⟩
  | c :: d :: cs, X, W, n, G, x :: y :: xs, p, h => by
    have h' : chkEs g X.N X.env.scope (d :: cs) (y :: xs) = true := by
      unfold chkEs at h
      simp only [Bool.and_eq_true] at h
      exact h.2
    have h1 : chkE g X.N X.env.scope c x = true := by
      unfold chkEs at h
      simp only [Bool.and_eq_true] at h
      exact h.1.1
    intro σ e HF H S Q E P
    -- the reading of the rest is the weakest one that has a rule
    have rest : PW X (.BoolOp .And (y :: xs) p) (fun σ H Q => ∃ t, PW X (.BoolOp .And (y :: xs) p) t ∧ t σ H Q) := ⟨fun wh pins s σ H Q I ⟨t, q1, q2⟩ => q1.run wh pins s σ H Q I q2⟩
    refine ⟨_, pw_and pt_W rest, (sndB c G x h1).bndD E P fun k e1 _ k' HF1 H1 S1 st E1 r P1 => ?_⟩
    have r : k' = k := r
    subst r
    cases k' with
    | true => exact iteT (sndAndB (d :: cs) G (y :: xs) p h' σ e1 HF1 H1 S1 Q E1 P1)
    | false => exact iteF (PD.val P1 E1 rfl)
  | [_], _, _, _, _, [], _, h => by simp [chkEs] at h
  | [_], _, _, _, _, _ :: _ :: _, _, h => by simp [chkEs] at h
  | _ :: _ :: _, _, _, _, _, [], _, h => by simp [chkEs] at h
  | _ :: _ :: _, _, _, _, _, [_], _, h => by simp [chkEs] at h
termination_by cs => (sizeOf cs, 0)
theorem sndOrB : ∀ (cs : List CE) {X : Cx} {W : WX} {n : Nat} (G : Gd g F X W n) (xs : List Expr) (p : Pos), chkEs g X.N X.env.scope cs xs = true → ∀ σ e HF H S (Q : Bool → Hp → Prop), EnvR X.K HF H σ e S → PD X W relB HF H σ S (evOrB g.sig F cs e) Q →
    ∃ t, PW X (.BoolOp .Or xs p) t ∧ t σ H Q
  | [], X, W, n, G, xs, p, h => fun σ e HF H S Q E P => P.elim
  | [c], X, W, n, G, [x], p, h => by
    simp only [chkEs, Bool.and_eq_true] at h
    intro σ e HF H S Q E P
    exact ⟨_, pw_or1 pt_W, sndB c G x h.1.1 σ e HF H S Q E P⟩
  | c :: d :: cs, X, W, n, G, x :: y :: xs, p, h => by
    have h' : chkEs g X.N X.env.scope (d :: cs) (y :: xs) = true := by
      unfold chkEs at h
      simp only [Bool.and_eq_true] at h
      exact h.2
    have h1 : chkE g X.N X.env.scope c x = true := by
      unfold chkEs at h
      simp only [Bool.and_eq_true] at h
      exact h.1.1
    intro σ e HF H S Q E P
    -- the reading of the rest is the weakest one that has a rule
    have rest : PW X (.BoolOp .Or (y :: xs) p) (fun σ H Q => ∃ t, PW X (.BoolOp .Or (y :: xs) p) t ∧ t σ H Q) := ⟨fun wh pins s σ H Q I ⟨t, q1, q2⟩ => q1.run wh pins s σ H Q I q2⟩
    refine ⟨_, pw_or pt_W rest, (sndB c G x h1).bndD E P fun k e1 _ k' HF1 H1 S1 st E1 r P1 => ?_⟩
    have r : k' = k := r
    subst r
    cases k' with
    | true => exact iteT (PD.val P1 E1 rfl)
    | false => exact iteF (sndOrB (d :: cs) G (y :: xs) p h' σ e1 HF1 H1 S1 Q E1 P1)
  | [_], _, _, _, _, [], _, h => by simp [chkEs] at h
  | [_], _, _, _, _, _ :: _ :: _, _, h => by simp [chkEs] at h
  | _ :: _ :: _, _, _, _, _, [], _, h => by simp [chkEs] at h
  | _ :: _ :: _, _, _, _, _, [_], _, h => by simp [chkEs] at h
termination_by cs => (sizeOf cs, 0)
theorem sndAnd : ∀ (cs : List CE) {X : Cx} {W : WX} {n : Nat} (G : Gd g F X W n) (xs : List Expr) (p : Pos), chkEs g X.N X.env.scope cs xs = true → SO X W (wE X (.BoolOp .And xs p)) (evAnd g.sig F cs)
  | [], X, W, n, G, xs, p, h => fun σ e HF H S Q E P => P.elim
  | [c], X, W, n, G, [x], p, h => by
    simp only [chkEs, Bool.and_eq_true] at h
    exact pe_one_and (sndE c G x h.1.1)
  | c :: d :: cs, X, W, n, G, x :: y :: xs, p, h => by
    have h' : chkEs g X.N X.env.scope (d :: cs) (y :: xs) = true := by
      unfold chkEs at h
      simp only [Bool.and_eq_true] at h
      exact h.2
    have h1 : chkE g X.N X.env.scope c x = true := by
      unfold chkEs at h
      simp only [Bool.and_eq_true] at h
      exact h.1.1
    intro σ e HF H S Q E P
    have P' : PO X W HF H σ S (bnd (bnd (evE g.sig F c) fun x => opt (asBool x)) (fun k => if k then evAnd g.sig F (d :: cs) else ret (.d (.bool false))) e) Q := by
      rw [bnd_assoc]
      exact P
    refine wE_of (pe_and pe_W pe_W) ((bool_bnd (sndE c G x h1)).bndO E P' fun k e1 _ v HF1 H1 S1 st E1 r P1 => ⟨k, r, ?_⟩)
    cases k with
    | true => exact iteT (sndAnd (d :: cs) G (y :: xs) p h' σ e1 HF1 H1 S1 Q E1 P1)
    | false => exact iteF (PO.dat P1 E1 (.bl _))
  | [_], _, _, _, _, [], _, h => by simp [chkEs] at h
  | [_], _, _, _, _, _ :: _ :: _, _, h => by simp [chkEs] at h
  | _ :: _ :: _, _, _, _, _, [], _, h => by simp [chkEs] at h
  | _ :: _ :: _, _, _, _, _, [_], _, h => by simp [chkEs] at h
termination_by cs => (sizeOf cs, 0)
theorem sndOr : ∀ (cs : List CE) {X : Cx} {W : WX} {n : Nat} (G : Gd g F X W n) (xs : List Expr) (p : Pos), chkEs g X.N X.env.scope cs xs = true → SO X W (wE X (.BoolOp .Or xs p)) (evOr g.sig F cs)
  | [], X, W, n, G, xs, p, h => fun σ e HF H S Q E P => P.elim
  | [c], X, W, n, G, [x], p, h => by
    simp only [chkEs, Bool.and_eq_true] at h
    exact pe_one_and (sndE c G x h.1.1)
  | c :: d :: cs, X, W, n, G, x :: y :: xs, p, h => by
    have h' : chkEs g X.N X.env.scope (d :: cs) (y :: xs) = true := by
      unfold chkEs at h
      simp only [Bool.and_eq_true] at h
      exact h.2
    have h1 : chkE g X.N X.env.scope c x = true := by
      unfold chkEs at h
      simp only [Bool.and_eq_true] at h
      exact h.1.1
    intro σ e HF H S Q E P
    have P' : PO X W HF H σ S (bnd (bnd (evE g.sig F c) fun x => opt (asBool x)) (fun k => if k then ret (.d (.bool true)) else evOr g.sig F (d :: cs)) e) Q := by
      rw [bnd_assoc]
      exact P
    refine wE_of (pe_or pe_W pe_W) ((bool_bnd (sndE c G x h1)).bndO E P' fun k e1 _ v HF1 H1 S1 st E1 r P1 => ⟨k, r, ?_⟩)
    cases k with
    | true => exact iteT (PO.dat P1 E1 (.bl _))
    | false => exact iteF (sndOr (d :: cs) G (y :: xs) p h' σ e1 HF1 H1 S1 Q E1 P1)
  | [_], _, _, _, _, [], _, h => by simp [chkEs] at h
  | [_], _, _, _, _, _ :: _ :: _, _, h => by simp [chkEs] at h
  | _ :: _ :: _, _, _, _, _, [], _, h => by simp [chkEs] at h
  | _ :: _ :: _, _, _, _, _, [_], _, h => by simp [chkEs] at h
termination_by cs => (sizeOf cs, 0)
theorem sndDs : ∀ (cs : List CE) {X : Cx} {W : WX} {n : Nat} (G : Gd g F X W n) (xs : List Expr), chkEs g X.N X.env.scope cs xs = true → SD X W (relXs X.K) (wA X xs) (evDs g.sig F cs)
  | [], X, W, n, G, [], h => fun σ e HF H S Q E P => wA_of pa_nil (PD.val P E .nil)
  | c :: cs, X, W, n, G, x :: xs, h => by
    simp only [chkEs, Bool.and_eq_true] at h
    obtain ⟨⟨h1, h2⟩, h3⟩ := h
    intro σ e HF H S Q E P
    refine wA_of (pa_cons pe_W pa_W (star_cons h2)) ((dat_of (sndE c G x h1)).bndD E P fun d e1 _ v HF1 H1 S1 st E1 r P1 => ?_)
    refine (sndDs cs G xs h3).bndD E1 P1 fun ds e2 _ vs HF2 H2 S2 st2 E2 rs P2 => ?_
    exact PD.val P2 E2 (.cons (Rp.mono st2.grow r) rs)
  | [], _, _, _, _, _ :: _, h => by simp [chkEs] at h
  | _ :: _, _, _, _, _, [], h => by simp [chkEs] at h
termination_by cs => (sizeOf cs, 0)
theorem sndTs : ∀ (cs : List CE) {X : Cx} {W : WX} {n : Nat} (G : Gd g F X W n) (xs : List Expr), chkEs g X.N X.env.scope cs xs = true → SD X W (relTs X.K) (wA X xs) (evTs g.sig F cs)
  | [], X, W, n, G, [], h => fun σ e HF H S Q E P => wA_of pa_nil (PD.val P E .nil)
  | c :: cs, X, W, n, G, x :: xs, h => by
    simp only [chkEs, Bool.and_eq_true] at h
    obtain ⟨⟨h1, h2⟩, h3⟩ := h
    intro σ e HF H S Q E P
    refine wA_of (pa_cons pe_W pa_W (star_cons h2)) ((tk_ok h1 (sndE c G x h1)).bndD E P fun d e1 _ v HF1 H1 S1 st E1 r P1 => ?_)
    refine (sndTs cs G xs h3).bndD E1 P1 fun ds e2 _ vs HF2 H2 S2 st2 E2 rs P2 => ?_
    exact PD.val P2 E2 (.cons (TokR.mono st2.grow r) rs)
  | [], _, _, _, _, _ :: _, h => by simp [chkEs] at h
  | _ :: _, _, _, _, _, [], h => by simp [chkEs] at h
termination_by cs => (sizeOf cs, 0)
theorem sndAs : ∀ (bs : List Bool) (cs : List CE) {X : Cx} {W : WX} {n : Nat} (G : Gd g F X W n) (xs : List Expr), chkEs g X.N X.env.scope cs xs = true → SD X W (relTs X.K) (wA X xs) (evAs g.sig F bs cs)
  | [], [], X, W, n, G, [], h => fun σ e HF H S Q E P => wA_of pa_nil (PD.val P E .nil)
  | b :: bs, c :: cs, X, W, n, G, x :: xs, h => by
    simp only [chkEs, Bool.and_eq_true] at h
    obtain ⟨⟨h1, h2⟩, h3⟩ := h
    intro σ e HF H S Q E P
    have hd : SD X W (relT X.K) (wE X x) (if b then tk c (evE g.sig F c) else bnd (evE g.sig F c) fun o => ret (.o (view o))) := by
      cases b with
      | true => exact tk_ok h1 (sndE c G x h1)
      | false => exact last_of (sndE c G x h1)
    refine wA_of (pa_cons pe_W pa_W (star_cons h2)) (hd.bndD E P fun d e1 _ v HF1 H1 S1 st E1 r P1 => ?_)
    refine (sndAs bs cs G xs h3).bndD E1 P1 fun ds e2 _ vs HF2 H2 S2 st2 E2 rs P2 => ?_
    exact PD.val P2 E2 (.cons (TokR.mono st2.grow r) rs)
  | [], _ :: _, _, _, _, _, _, _ => fun σ e HF H S Q E P => P.elim
  | _ :: _, [], _, _, _, _, _, _ => fun σ e HF H S Q E P => P.elim
  | [], [], _, _, _, _, _ :: _, h => by simp [chkEs] at h
  | _ :: _, _ :: _, _, _, _, _, [], h => by simp [chkEs] at h
termination_by _ cs => (sizeOf cs, 0)
theorem sndO : ∀ (c : Option CE) {X : Cx} {W : WX} {n : Nat} (G : Gd g F X W n) (x : Option Expr), chkO g X.N X.env.scope c x = true → SD X W relI (wPo X x) (evO g.sig F c)
  | none, X, W, n, G, none, h => fun σ e HF H S Q E P => wP_of po_none (PD.val P E rfl)
  | some c, X, W, n, G, some x, h => by
    intro σ e HF H S Q E P
    have h : chkE g X.N X.env.scope c x = true := h
    refine wP_of (po_some pe_W) (sndE c G x h σ e HF H S _ E ?_)
    have P : PD X W relI HF H σ S (bnd (evE g.sig F c) (fun o => bnd (opt (asInt o)) fun i => ret (some i)) e) Q := P
    unfold bnd at P
    cases hm : evE g.sig F c e with
    | bad => rw [hm] at P; exact P
    | ex y e1 => rw [hm] at P; exact P
    | ok o e1 =>
      rw [hm] at P
      intro v HF1 H1 S1 T st E1 r ap
      cases o with
      | d z =>
        cases z with
        | int i =>
          obtain ⟨r, t⟩ := r
          have r : Rp X.K HF1 v (.int i) := r
          cases r
          exact ⟨i, rfl, P (some i) HF1 H1 S1 (st.less fun a z => .inl z) E1 rfl⟩
        | _ => exact P.elim
      | _ => exact P.elim
  | none, _, _, _, _, some _, h => by simp [chkO] at h
  | some _, _, _, _, _, none, h => by simp [chkO] at h
termination_by c => (sizeOf c, 0)
theorem sndS : ∀ (s : Src) (cs : List CE) {X : Cx} {W : WX} {n : Nat} (G : Gd g F X W n) (tg iter : Expr), chkS g X.N X.env.scope s cs iter = true → SD X W (relW X.K) (wI X tg iter) (bnd (evFs g.sig F cs) fun os => opt (source s os))
  | .seq, [c], X, W, n, G, tg, iter, h => by
    have q := src_seq (tg := tg) (sndE c G iter h)
    have e1 : (bnd (evFs g.sig F [c]) fun os => opt (source .seq os)) = bnd (evE g.sig F c) fun o => opt (itemsOf (view o)) := by
      show bnd (bnd (evE g.sig F c) fun o => bnd (evFs g.sig F []) fun os => ret (view o :: os)) _ = _
      rw [bnd_assoc]
      rfl
    rw [e1]
    exact q
  | .rng1, [c], X, W, n, G, tg, iter, h => by
    obtain ⟨f, x, p, p', rfl, h1, h2, h3, h4, h5⟩ := inv_rng1 h
    subst h1
    intro σ e HF H S R E P
    have P' : PD X W (relW X.K) HF H σ S (bnd (bnd (evE g.sig F c) fun o => bnd (evFs g.sig F []) fun os => ret (view o :: os)) (fun os => opt (source .rng1 os)) e) R := P
    rw [bnd_assoc] at P'
    have P2 : PD X W (relW X.K) HF H σ S (bnd (bnd (evE g.sig F c) fun o => ret (view o)) (fun o => opt (source .rng1 [o])) e) R := by
      rw [bnd_assoc]; exact P'
    refine wI_of (pi_range1 (gl_ok h3) (G.blt _ h2) (pa_cons pe_W pa_nil (star_cons h5)) (star_cons h5)) ((las_of (sndE c G x h4)).bndD E P2 fun o e1 _ v HF1 H1 S1 st1 E1 r1 P1 => ?_)
    obtain ⟨items, q1, P3⟩ := opt_okD P1
    obtain ⟨j, rfl, hj, rfl⟩ := source_rng1 q1
    have r1 : Rp X.K HF1 v (.int j) := r1
    cases r1
    obtain ⟨b1, b2⟩ := okR_ok hj
    exact ⟨j, rfl, b1, b2, P3 _ HF1 H1 S1 Stp.refl E1 (wk_range 0 j.toNat)⟩
  | .rng2, [c, d], X, W, n, G, tg, iter, h => by
    obtain ⟨f, x, y, p, p', rfl, h1, h2, h3, h4, h5, h6, h7⟩ := inv_rng2 h
    subst h1
    intro σ e HF H S R E P
    have P2 : PD X W (relW X.K) HF H σ S (bnd (bnd (evE g.sig F c) fun o => ret (view o)) (fun o => bnd (bnd (evE g.sig F d) fun o => ret (view o)) fun o2 => opt (source .rng2 [o, o2])) e) R := by
      have P' : PD X W (relW X.K) HF H σ S (bnd (bnd (evE g.sig F c) fun o => bnd (bnd (evE g.sig F d) fun o2 => bnd (evFs g.sig F []) fun os => ret (view o2 :: os)) fun os => ret (view o :: os)) (fun os => opt (source .rng2 os)) e) R := P
      rw [bnd_assoc] at P' ⊢
      have e1 : (fun a => bnd ((fun o => bnd (bnd (evE g.sig F d) fun o2 => bnd (evFs g.sig F []) fun os => ret (view o2 :: os)) fun os => ret (view o :: os)) a) fun os => opt (source .rng2 os)) = fun a => bnd (ret (view a)) fun o => bnd (bnd (evE g.sig F d) fun o => ret (view o)) fun o2 => opt (source .rng2 [o, o2]) := by
        funext a
        show bnd (bnd (bnd (evE g.sig F d) fun o2 => ret [view o2]) fun os => ret (view a :: os)) (fun os => opt (source .rng2 os)) = bnd (bnd (evE g.sig F d) fun o => ret (view o)) fun o2 => opt (source .rng2 [view a, o2])
        rw [bnd_assoc, bnd_assoc, bnd_assoc]
        rfl
      rw [e1] at P'
      exact P'
    have hs2 : allNotStar [x, y] = true := by simp [allNotStar, h5, h7]
    refine wI_of (pi_range2 (gl_ok h3) (G.blt _ h2) (pa_cons pe_W (pa_cons pe_W pa_nil (star_cons h7)) (star_cons h5)) (by rw [star_cons h5, star_cons h7]; rfl) (star_cons h7)) ((las_of (sndE c G x h4)).bndD E P2 fun o e1 _ v HF1 H1 S1 st1 E1 r1 P1 => ?_)
    refine (las_of (sndE d G y h6)).bndD E1 P1 fun o2 e2 _ v2 HF2 H2 S2 st2 E2 r2 P3 => ?_
    obtain ⟨items, q1, P4⟩ := opt_okD P3
    obtain ⟨i, j, rfl, rfl, hj1, hj2, rfl⟩ := source_rng2 q1
    have r1 : Rp X.K HF1 v (.int i) := r1
    have r2 : Rp X.K HF2 v2 (.int j) := r2
    cases r1
    cases r2
    obtain ⟨b1, b2⟩ := okR_ok hj1
    obtain ⟨b3, b4⟩ := okR_ok hj2
    exact ⟨i, j, rfl, ⟨b1, b2, b3, b4⟩, P4 _ HF2 H2 S2 Stp.refl E2 (wk_range i (j - i).toNat)⟩
  | .seq, [], _, _, _, _, _, _, h => by simp [chkS] at h
  | .seq, _ :: _ :: _, _, _, _, _, _, _, h => by simp [chkS] at h
  | .rng1, [], _, _, _, _, _, _, h => by simp [chkS] at h
  | .rng1, _ :: _ :: _, _, _, _, _, _, _, h => by simp [chkS] at h
  | .rng2, [], _, _, _, _, _, _, h => by simp [chkS] at h
  | .rng2, [_], _, _, _, _, _, _, h => by simp [chkS] at h
  | .rng2, _ :: _ :: _ :: _, _, _, _, _, _, _, h => by simp [chkS] at h
  | .enm, _, _, _, _, _, _, _, h => by simp [chkS] at h
  | .zip, _, _, _, _, _, _, _, h => by simp [chkS] at h
termination_by _ cs => (sizeOf cs, 0)
end
/-- name = [..] on one line -/
theorem snd_lc {own : List (Str × Nat)} {t : Tg} {s : Src} {es ifs : List CE} {elt : CE} {X : Cx} {W : WX} {n : Nat} (G : Gd g F X W n) {e tg iter : Expr} {is : List Expr} {scope : Scope} {p sp py : Pos} {i : Nat} {y : Str}
    (h : chkE g X.N X.env.scope (.lc own t s es ifs elt) (.ListComp e [⟨tg, iter, is, 0⟩] scope p) = true) (hy : X.N[i]? = some y) (hl : X.env.scope.names.lookup y = some .local) (hsw : swapsWith (.ListComp e [⟨tg, iter, is, 0⟩] scope p) (some (.Name y py)) sp.line X.env = pure true) :
    ∃ te : TE, PS X (.Assign [.Name y py] (.ListComp e [⟨tg, iter, is, 0⟩] scope p) sp) (tAsg te (gName i)) ∧ SO X W te (evE g.sig F (.lc own t s es ifs elt)) := by
  obtain ⟨el, tg', iter', is', scope', p', heq, h1, h2, h3, h4, h5, h6, h7, h8⟩ := inv_lc h
  cases heq
  obtain ⟨tt, hpt, hT⟩ := lc_tests G h7 h6 fun c x e1 e2 s H C cl fp => by
    subst e1 e2
    have h6' : chkE g X.N (relS scope X.env.scope) c x = true := by
      simp only [chkEs, Bool.and_eq_true] at h6
      exact h6.1.1
    exact sndB c (G.blk s H scope (compEnvC scope cl C X.env) fp) x h6'
  obtain ⟨te, hg, hpe, q⟩ := comp_rd (own := own) G h4 h5 (sndS s es G tg iter h2) hT fun s H C cl fp => dat_of (sndE elt (G.blk s H scope (compEnvC scope cl C X.env) fp) e h8)
  rw [bnd_assoc] at q
  exact ⟨_, ps_setLc G.calm G.nd hy hl hsw pi_W (blkOk_by h1) hg hpt hpe (set_ok h3), q⟩
end
end Z
/-! Z10: statements -/
namespace Z
open PySem PySem.Spec PyProof.Rows L2
def notComp : Expr → Bool
  | .ListComp _ _ _ _ => false
  | .SetComp _ _ _ _ => false
  | .DictComp _ _ _ _ _ => false
  | _ => true
/-- no slice -/
def notSl : Expr → Bool
  | .Slice _ _ _ _ => false
  | _ => true
/-- the name is stored within the comprehension's frame -/
def swB (sc : Scope) (t : Str) (l : Nat) (scope : Scope) (p : Pos) : Bool := kindB sc t .local && (l == p.line) && !(scope.names.any fun (n, k) => n == t && (k == .local || k == .cell))
/-- name = e -/
def chkSet (sc : Scope) (x : Str) (p : Pos) : Expr → Bool
  | .ListComp _ [⟨_, _, _, _⟩] _ _ => true
  | e => notComp e
mutual
def chkS1 (g : Cfg) (N : List Str) (sc : Scope) (fx : List Nat) : CS → Stmt → Bool
  | .set i c, .Assign [.Name x p] e _ => decide (N[i]? = some x) && (kindB sc x .local || kindB sc x .cell) && !fx.contains i && chkE g N sc c e && chkSet sc x p e
  | .setT t c, .Assign [.Tuple xs k p] e _ => chkT true N sc t (.Tuple xs k p) && tgOut fx t && chkE g N sc c e && notComp e && !isTup e
  | .aug i op c, .AugAssign (.Name x _) op' e _ => decide (N[i]? = some x) && (kindB sc x .local || kindB sc x .cell) && okNm x && !fx.contains i && decide (op = op') && chkE g N sc c e
  | .app i c, .Expr (.Call (.Attribute (.Name x _) nm ap) [e] [] p) _ => decide (nm = "append") && decide (N[i]? = some x) && visB sc x && okNm x && chkE g N sc c e && notStar e && (ap.endLine == p.line)
  | .sub i ix c, .Assign [.Subscript (.Name x _) s _] e _ => decide (N[i]? = some x) && visB sc x && okNm x && chkE g N sc ix s && chkE g N sc c e && notComp e && notSl s
  | .ifs c a b, .If t xs ys _ => chkE g N sc c t && chkSs g N sc fx a xs && chkSs g N sc fx b ys
  | .whl c b, .While t xs [] _ => chkE g N sc c t && chkSs g N sc fx b xs
  | .forr t s es b, .For tg it xs [] _ => chkS g N sc s es it && notSet it && chkT true N sc t tg && tgOut fx t && chkSs g N sc fx b xs
  | .ret c, .Return (some e) _ => chkE g N sc c e
  | .retN, .Return none _ => true
  | .brk, .Break _ => true
  | .cont, .Continue _ => true
  | .pas, .Pass _ => true
  | .exp c, .Expr e _ => chkE g N sc c e && notComp e
  | .never, _ => true
  | _, _ => false
def chkSs (g : Cfg) (N : List Str) (sc : Scope) (fx : List Nat) : List CS → List Stmt → Bool
  | [], [] => true
  | c :: cs, x :: xs => chkS1 g N sc fx c x && chkSs g N sc fx cs xs
  | _, _ => false
/-- a target stores none of these slots -/
def tgOut (fx : List Nat) : Tg → Bool
  | .nm i => !fx.contains i
  | .tup ts => tgOuts fx ts
def tgOuts (fx : List Nat) : List Tg → Bool
  | [] => true
  | t :: ts => tgOut fx t && tgOuts fx ts
end
/-- the lent slots are as they were -/
def Fx (fx : List Nat) (σ σ' : Z.St) : Prop := ∀ j ∈ fx, σ'[j]? = σ[j]?
theorem Fx.refl {fx : List Nat} {σ : Z.St} : Fx fx σ σ := fun _ _ => rfl
theorem Fx.trans {fx : List Nat} {σ σ1 σ2 : Z.St} (a : Fx fx σ σ1) (b : Fx fx σ1 σ2) : Fx fx σ σ2 := fun j h => (b j h).trans (a j h)
theorem Fx.put {fx : List Nat} {σ : Z.St} {i : Nat} {v : Option V} (h : i ∉ fx) : Fx fx σ (σ.set i v) := fun j hj => by
  rw [List.getElem?_set_ne (fun e => h (by rw [e]; exact hj))]
section
variable (X : Cx) (W : WX) (fx : List Nat)
/-- what is wanted behind a statement -/
def PSt (HF H : Hp) (σ : Z.St) (S : Nat → Addr → Prop) (r : Res Fl) (D : Ends) : Prop :=
  match r with
  | .ok .nx e => ∀ σ' HF' H' S', Stp (U S) (U S') HF H HF' H' → EnvR X.K HF' H' σ' e S' → Fx fx σ σ' → D.nx σ' H'
  | .ok .bk e => ∀ σ' HF' H' S', Stp (U S) (U S') HF H HF' H' → EnvR X.K HF' H' σ' e S' → Fx fx σ σ' → D.bk σ' H'
  | .ok .ct e => ∀ σ' HF' H' S', Stp (U S) (U S') HF H HF' H' → EnvR X.K HF' H' σ' e S' → Fx fx σ σ' → D.ct σ' H'
  | .ok (.rt o) e => ∀ v σ' HF' H' S' T, Stp (U S) (fun a => U S' a ∨ T a) HF H HF' H' → EnvR X.K HF' H' σ' e S' → Ow X.K HF' H' v o T → (∀ a, T a → HF' a = none ∧ ¬ U S' a) → Fx fx σ σ' → D.rt v H'
  | .ex x e => ∀ cls d σ' HF' H' S', Stp (U S) (U S') HF H HF' H' → EnvR X.K HF' H' σ' e S' → ExR X.K X.mg HF' x cls d → Fx fx σ σ' → W cls d σ' H'
  | .bad => False
def wSt (st : Stmt) : TS := fun D σ H => ∀ (pins : List (Addr × Obj)) (s : Shared), Inv X pins σ H s → wpAny (model X.prog X.w) X.A (exec st X.env) (SP X pins D) X.xe s
def wSs (st : List Stmt) : TS := fun D σ H => ∀ (pins : List (Addr × Obj)) (s : Shared), Inv X pins σ H s → wpAny (model X.prog X.w) X.A (execs st X.env) (SP X pins D) X.xe s
def SS (w : TS) (m : M Fl) : Prop := ∀ σ e HF H S D, EnvR X.K HF H σ e S → PSt X W fx HF H σ S (m e) D → w D σ H
end
/-- the context of a def's body -/
structure Gs (g : Cfg) (F : Fn) (X : Cx) (W : WX) (n : Nat) : Prop where
  e : Gd g F X W n
  hp : PassesOwn (model X.prog X.w) X.A X.env X.xe
  kind : X.env.scope.kind = .function
  fn : ∀ x, X.fn x = true
section
variable {g : Cfg} {F : Fn} {X : Cx} {W : WX} {n : Nat} {fx : List Nat} {σ σ1 : Z.St} {H HF HF1 H1 : Hp} {S S1 : Nat → Addr → Prop} {D : Ends} {st : Stmt} {sts : List Stmt}
theorem ps_W : PS X st (wSt X st) := ⟨fun pins s σ H D I h => h pins s I⟩
theorem pss_W : PSs X sts (wSs X sts) := ⟨fun pins s σ H D I h => h pins s I⟩
theorem wSt_of {t : TS} (h : PS X st t) (q : t D σ H) : wSt X st D σ H := fun pins s I => h.run pins s σ H D I q
theorem wSs_of {t : TS} (h : PSs X sts t) (q : t D σ H) : wSs X sts D σ H := fun pins s I => h.run pins s σ H D I q
theorem PSt.step {r : Res Fl} (p : PSt X W fx HF H σ S r D) (t : Stp (U S) (U S1) HF H HF1 H1) (f : Fx fx σ σ1) : PSt X W fx HF1 H1 σ1 S1 r D := by
  cases r with
  | ok o e =>
    cases o with
    | nx => exact fun σ' HF' H' S' st E f' => p σ' HF' H' S' (t.trans st) E (f.trans f')
    | bk => exact fun σ' HF' H' S' st E f' => p σ' HF' H' S' (t.trans st) E (f.trans f')
    | ct => exact fun σ' HF' H' S' st E f' => p σ' HF' H' S' (t.trans st) E (f.trans f')
    | rt o => exact fun v σ' HF' H' S' T st E r ap f' => p v σ' HF' H' S' T (t.trans st) E r ap (f.trans f')
  | ex x e => exact fun cls d σ' HF' H' S' st E r f' => p cls d σ' HF' H' S' (t.trans st) E r (f.trans f')
  | bad => exact p
theorem PSt.nx {e : Env} (p : PSt X W fx HF H σ S (.ok .nx e) D) (E : EnvR X.K HF H σ e S) : D.nx σ H := p σ HF H S Stp.refl E Fx.refl
/-- an expression's value first -/
theorem SD.bndS {α β : Type} {rel : α → β → Z.St → Hp → Hp → Prop} {w : Z.St → Hp → (β → Hp → Prop) → Prop} {m : M α} (h : SD X W rel w m) {f : α → M Fl} {e : Env} {R : β → Hp → Prop} (E : EnvR X.K HF H σ e S)
    (P : PSt X W fx HF H σ S (bnd m f e) D) (k : ∀ a e1, m e = .ok a e1 → ∀ b HF1 H1 S1, Stp (U S) (U S1) HF H HF1 H1 → EnvR X.K HF1 H1 σ e1 S1 → rel a b σ HF1 H1 → PSt X W fx HF1 H1 σ S1 (f a e1) D → R b H1) : w σ H R := by
  refine h σ e HF H S R E ?_
  unfold bnd at P
  cases hm : m e with
  | ok a e1 =>
    rw [hm] at P
    exact fun b HF1 H1 S1 st E1 r => k a e1 hm b HF1 H1 S1 st E1 r (PSt.step P st Fx.refl)
  | ex x e1 =>
    rw [hm] at P
    exact fun cls d HF' H' S' st E r => P cls d σ HF' H' S' st E r Fx.refl
  | bad => rw [hm] at P; exact P
theorem SO.bndS {w : Z.St → Hp → VK → Prop} {m : M O} (h : SO X W w m) {f : O → M Fl} {e : Env} {R : VK} (E : EnvR X.K HF H σ e S)
    (P : PSt X W fx HF H σ S (bnd m f e) D) (k : ∀ o e1 v HF1 H1 S1 T, Stp (U S) (fun a => U S1 a ∨ T a) HF H HF1 H1 → EnvR X.K HF1 H1 σ e1 S1 → Ow X.K HF1 H1 v o T → (∀ a, T a → HF1 a = none ∧ ¬ U S1 a) → PSt X W fx HF H σ S (f o e1) D → R v H1) : w σ H R := by
  refine h σ e HF H S R E ?_
  unfold bnd at P
  cases hm : m e with
  | ok a e1 =>
    rw [hm] at P
    exact fun v HF1 H1 S1 T st E1 r ap => k a e1 v HF1 H1 S1 T st E1 r ap P
  | ex x e1 =>
    rw [hm] at P
    exact fun cls d HF' H' S' st E r => P cls d σ HF' H' S' st E r Fx.refl
  | bad => rw [hm] at P; exact P
theorem loc_ok {sc : Scope} {x : Str} (h : (kindB sc x .local || kindB sc x .cell) = true) : Loc sc x := by
  rcases Bool.or_eq_true_iff.mp h with h | h
  · exact .inl (kindB_ok h)
  · exact .inr (kindB_ok h)
theorem notin_of {i : Nat} (h : (!fx.contains i) = true) : i ∉ fx := by simpa using h
theorem sw_none {e : Expr} {t : Option Expr} {l : Nat} {env : PySem.Env} (h : notComp e = true) : swapsWith e t l env = pure false := by
  cases e <;> first | rfl | (simp [notComp] at h)
theorem sole_none {e t : Expr} {l : Nat} {env : PySem.Env} (h : notComp e = true) : swapsWithSole [t] e l env = pure false := by
  unfold swapsWithSole
  exact sw_none h
/-- a slot is stored -/
theorem setS_ok {i : Nat} {o : O} {e : Env} {v : V} {T : Addr → Prop} (E : EnvR X.K HF1 H1 σ e S1) (st : Stp (U S) (fun a => U S1 a ∨ T a) HF H HF1 H1) (r : Ow X.K HF1 H1 v o T) (ap : ∀ a, T a → HF1 a = none ∧ ¬ U S1 a) (hi : i ∉ fx)
    (P : PSt X W fx HF H σ S (setS i o e) D) : D.nx (σ.set i (some v)) H1 := by
  unfold setS at P
  split at P
  · rename_i hl
    refine P _ HF1 H1 _ (st.less fun a z => (U_put z)) (E.put hl r fun a z => ⟨(ap a z).1, fun j _ q => (ap a z).2 ⟨j, q⟩⟩) (Fx.put hi)
  · exact P.elim
mutual
theorem asg_fx : ∀ (t : Tg) (d : PyData) (v : V) (K : PySem.W.Frag) (HF H : Hp) (e e1 : Env) (σ : Z.St) (S : Nat → Addr → Prop) (Q : Z.St → Hp → Prop), tgOut fx t = true → asg t d e = some e1 → EnvR K HF H σ e S → Rp K HF v d →
    (∀ σ1 S1, EnvR K HF H σ1 e1 S1 → (∀ i a, S1 i a → S i a) → Fx fx σ σ1 → Q σ1 H) → gT K t v σ H Q
  | .nm i, d, v, K, HF, H, e, e1, σ, S, Q, ho, h, E, r, k => by
    have ho : i ∉ fx := notin_of ho
    unfold asg at h
    split at h <;> cases h
    rename_i hi
    refine k _ _ (E.put hi (o := .d d) (T := fun _ => False) ⟨r, fun _ z => z⟩ fun _ z => z.elim) (fun j a z => ?_) (Fx.put ho)
    unfold putS at z
    split at z
    · exact z.elim
    · exact z
  | .tup ts, d, v, K, HF, H, e, e1, σ, S, Q, ho, h, E, r, k => by
    cases d with
    | tuple xs =>
      have h : asgL ts xs e = some e1 := h
      cases r with
      | tup hq rr =>
        exact ⟨_, _, rfl, seqT_mono E.sub hq, by rw [rr.length, asgL_len (K := K) (HF := HF) (H := H) ts xs e e1 h], asgL_fx ts xs _ K HF H e e1 σ S Q ho h E rr k⟩
    | _ => simp [asg] at h
theorem asgL_fx : ∀ (ts : List Tg) (ds : List PyData) (vs : List V) (K : PySem.W.Frag) (HF H : Hp) (e e1 : Env) (σ : Z.St) (S : Nat → Addr → Prop) (Q : Z.St → Hp → Prop), tgOuts fx ts = true → asgL ts ds e = some e1 → EnvR K HF H σ e S → RpL K HF vs ds →
    (∀ σ1 S1, EnvR K HF H σ1 e1 S1 → (∀ i a, S1 i a → S i a) → Fx fx σ σ1 → Q σ1 H) → gTs K ts vs σ H Q
  | [], [], _, K, HF, H, e, e1, σ, S, Q, ho, h, E, .nil, k => by
    cases h
    exact ⟨rfl, k σ S E (fun _ _ z => z) Fx.refl⟩
  | t :: ts, d :: ds, _, K, HF, H, e, e1, σ, S, Q, ho, h, E, .cons (v := v) (vs := vs) r rr, k => by
    have h : (asg t d e).bind (asgL ts ds) = some e1 := h
    obtain ⟨o1, o2⟩ := Bool.and_eq_true_iff.mp (show (tgOut fx t && tgOuts fx ts) = true from ho)
    cases q : asg t d e with
    | none => rw [q] at h; cases h
    | some e2 =>
      rw [q] at h
      refine ⟨v, vs, rfl, asg_fx t d v K HF H e e2 σ S _ o1 q E r fun σ2 S2 E2 hs hw => ?_⟩
      exact asgL_fx ts ds vs K HF H e2 e1 σ2 S2 Q o2 h E2 rr fun σ3 S3 E3 hs3 hw3 => k σ3 S3 E3 (fun i a z => hs i a (hs3 i a z)) (hw.trans hw3)
  | [], _ :: _, _, K, HF, H, e, e1, σ, S, Q, ho, h, E, _, k => by simp [asgL] at h
  | _ :: _, [], _, K, HF, H, e, e1, σ, S, Q, ho, h, E, _, k => by simp [asgL] at h
end
theorem augop_ok {op : Operator} {dx dy : PyData} {x y : V} {Q : VK} {o : O} (sub : Sub HF H) (vx : Vw X.K HF H x (.d dx)) (vy : Vw X.K HF H y (.d dy)) (h : augop op dx dy = some o) (gv : Gv X.K HF H o Q) : rW X (inplaceOp op) x y H Q := by
  unfold augop at h
  split at h
  · cases h
    rw [vw_int vx, vw_int vy]
    exact rW_of iop_add ⟨_, _, rfl, rfl, gv.d sub (.int _)⟩
  · split at h <;> cases h
    rename_i hz
    rw [vw_str vx, vw_str vy]
    exact rW_of iop_add_str ⟨_, _, rfl, rfl, lim_ok hz, gv.d sub (.str _)⟩
  · cases h
    rw [vw_int vx, vw_int vy]
    exact rW_of iop_sub ⟨_, _, rfl, rfl, gv.d sub (.int _)⟩
  · cases h
theorem Wk.mono {J : It} {items : List PyData} {K : PySem.W.Frag} (s : Sub HF HF1) (w : Wk K HF J items) : Wk K HF1 J items := fun i HF2 H2 s1 s2 => w i HF2 H2 (fun a o h => s1 a o (s a o h)) s2
/-- a for's turns -/
theorem walk_ok {t : Tg} {body : M Fl} {tb : TS} {J : It} {items : List PyData} {e : Env} (ho : tgOut fx t = true) (hb : SS X W fx tb body) (wk : Wk X.K HF J items) (E : EnvR X.K HF H σ e S) (P : PSt X W fx HF H σ S (walkL t body items e) D) :
    ∃ Wi : Nat → Nat → Z.St → Hp → Prop, (∃ m, Wi 0 m σ H) ∧ ∀ i m σ H, Wi i m σ H → (J.stop i H ∧ D.nx σ H) ∨
      (J.go i H ∧ ∃ N : Z.St → Hp → Prop, (∀ σ' H', N σ' H' → ∃ m', m' < m ∧ Wi (i + 1) m' σ' H') ∧ ∀ x H', J.yld i H x H' → gT X.K t x σ H' fun σ2 H2 => tb { D with nx := N, ct := N, bk := D.nx } σ2 H2) := by
  let CI : Nat → Z.St → Hp → Prop := fun i σ' H' => ∃ HF' e' S', EnvR X.K HF' H' σ' e' S' ∧ Wk X.K HF' J items ∧ PSt X W fx HF' H' σ' S' (walkL t body (items.drop i) e') D
  refine ⟨fun i m σ' H' => m = items.length - i ∧ i ≤ items.length ∧ CI i σ' H', ⟨items.length, by simp, Nat.zero_le _, HF, e, S, E, wk, P⟩, ?_⟩
  rintro i m σ' H' ⟨rfl, hi, HF', e', S', E', wk', P'⟩
  obtain ⟨wgo, wstop⟩ := wk' i HF' H' (fun _ _ h => h) E'.sub
  by_cases hlt : i < items.length
  · right
    have hget : items[i]? = some items[i] := List.getElem?_eq_getElem hlt
    have hdrop : items.drop i = items[i] :: items.drop (i + 1) := by rw [List.drop_eq_getElem_cons hlt]
    obtain ⟨go, yl⟩ := wgo _ hget
    refine ⟨go, CI (i + 1), fun σ2 H2 c => ⟨items.length - (i + 1), by omega, rfl, hlt, c⟩, fun x H2 y => ?_⟩
    obtain ⟨HF2, st2, sub2, rx⟩ := yl x H2 y
    have E2 := E'.quiet st2 sub2
    have P2 := P'.step (S1 := S') (st2.quiet (A := U S')) Fx.refl
    rw [hdrop] at P2
    unfold walkL at P2
    cases ha : asg t items[i] e' with
    | none => simp only [ha] at P2; exact P2.elim
    | some ea =>
      simp only [ha] at P2
      refine asg_fx t _ x _ _ _ _ ea σ' S' _ ho ha E2 rx fun σ3 S3 E3 hs3 hf3 => ?_
      have st3 : Stp (U S') (U S3) HF2 H2 HF2 H2 := Stp.refl.less (U_less hs3)
      have P3 := P2.step st3 hf3
      refine hb σ3 ea HF2 H2 S3 _ E3 ?_
      have go2 : ∀ {e5 : Env}, PSt X W fx HF2 H2 σ3 S3 (walkL t body (items.drop (i + 1)) e5) D → ∀ σ' HF5 H5 S5, Stp (U S3) (U S5) HF2 H2 HF5 H5 → EnvR X.K HF5 H5 σ' e5 S5 → Fx fx σ3 σ' → CI (i + 1) σ' H5 := fun P5 σ5 HF5 H5 S5 st5 E5 f5 =>
        ⟨HF5, _, S5, E5, wk'.mono (fun a o h => st5.grow a o (st2.grow a o h)), P5.step st5 f5⟩
      cases hr : body ea with
      | bad => simp only [hr] at P3; exact P3
      | ex x e5 => simp only [hr] at P3; exact P3
      | ok f e5 =>
        simp only [hr] at P3
        cases f with
        | nx => exact go2 P3
        | ct => exact go2 P3
        | bk => exact P3
        | rt o => exact P3
  · left
    have ei : i = items.length := by omega
    rw [ei, List.drop_length] at P'
    exact ⟨wstop (by omega), PSt.nx P' E'⟩
/-- a while's turns -/
theorem while_ok {c : M Bool} {body : M Fl} {tc : TT} {tb : TS} (hc : SD X W relB tc c) (hb : SS X W fx tb body) {k : Nat} {e : Env} (E : EnvR X.K HF H σ e S) (P : PSt X W fx HF H σ S (whileN c body k e) D) : tWhile tc tb D σ H := by
  refine ⟨fun m σ' H' => ∃ HF' e' S', EnvR X.K HF' H' σ' e' S' ∧ PSt X W fx HF' H' σ' S' (whileN c body m e') D, ⟨k, HF, e, S, E, P⟩, ?_⟩
  rintro m σ' H' ⟨HF', e', S', E', P'⟩
  cases m with
  | zero => exact P'.elim
  | succ m =>
    unfold whileN at P'
    refine hc σ' e' HF' H' S' _ E' ?_
    cases hm : c e' with
    | bad => simp only [hm] at P'; exact P'
    | ex x e1 =>
      simp only [hm] at P'
      exact fun cls d HF' H' S' st E r => P' cls d σ' HF' H' S' st E r Fx.refl
    | ok b e1 =>
      simp only [hm] at P'
      intro b' HF1 H1 S1 st1 E1 eb
      have eb : b' = b := eb
      subst eb
      have P1 := P'.step st1 Fx.refl
      cases b' with
      | false => exact iteF (PSt.nx P1 E1)
      | true =>
        refine iteT ⟨fun σ2 H2 => ∃ HF' e' S', EnvR X.K HF' H2 σ2 e' S' ∧ PSt X W fx HF' H2 σ2 S' (whileN c body m e') D, fun σ2 H2 q => ⟨m, Nat.lt_succ_self _, q⟩, hb σ' e1 HF1 H1 S1 _ E1 ?_⟩
        have go2 : ∀ {e5 : Env}, PSt X W fx HF1 H1 σ' S1 (whileN c body m e5) D → ∀ σ2 HF5 H5 S5, Stp (U S1) (U S5) HF1 H1 HF5 H5 → EnvR X.K HF5 H5 σ2 e5 S5 → Fx fx σ' σ2 → ∃ HF' e' S', EnvR X.K HF' H5 σ2 e' S' ∧ PSt X W fx HF' H5 σ2 S' (whileN c body m e') D := fun P5 σ5 HF5 H5 S5 st5 E5 f5 =>
          ⟨HF5, _, S5, E5, P5.step st5 f5⟩
        cases hr : body e1 with
        | bad => simp only [hr] at P1; exact P1
        | ex x e5 => simp only [hr] at P1; exact P1
        | ok f e5 =>
          simp only [hr] at P1
          cases f with
          | nx => exact go2 P1
          | ct => exact go2 P1
          | bk => exact P1
          | rt o => exact P1
end
end Z
/-! Z11: every checked statement does as the evaluator says; defs -/
namespace Z
open PySem PySem.Spec PyProof.Rows L2
section
variable {g : Cfg} {F : Fn}
theorem sw_val {X : Cx} {elt : Expr} {gs : List Comprehension} {scope : Scope} {pos py : Pos} {y : Str} {l : Nat} (hk : X.env.scope.kind = .function) : swapsWith (.ListComp elt gs scope pos) (some (.Name y py)) l X.env = pure (kindB X.env.scope y .local && (py.line == pos.line) && !(scope.names.any fun (n, k) => n == y && (k == .local || k == .cell))) := by
  have hb : X.env.blockKind = .function := by unfold Env.blockKind; rw [hk]; rfl
  have e1 : (X.env.kindOf y == some NameKind.local) = kindB X.env.scope y .local := by
    unfold kindB Env.kindOf
    cases X.env.scope.names.lookup y with
    | none => rfl
    | some k => cases k <;> rfl
  unfold swapsWith
  simp only [hb, e1, Expr.pos]
  rfl
theorem inv_set {N : List Str} {sc : Scope} {fx : List Nat} {i : Nat} {c : CE} {st : Stmt} (h : chkS1 g N sc fx (.set i c) st = true) : ∃ x p e p', st = .Assign [.Name x p] e p' ∧ N[i]? = some x ∧ Loc sc x ∧ i ∉ fx ∧ chkE g N sc c e = true ∧ chkSet sc x p e = true := by
  cases st with
  | Assign ts e p =>
    rcases ts with _ | ⟨t, _ | ⟨t2, ts⟩⟩
    · simp [chkS1] at h
    · cases t with
      | Name x p2 =>
        simp only [chkS1, Bool.and_eq_true] at h
        obtain ⟨⟨⟨⟨h1, h2⟩, h3⟩, h4⟩, h5⟩ := h
        exact ⟨x, p2, e, p, rfl, of_decide_eq_true h1, loc_ok h2, notin_of h3, h4, h5⟩
      | _ => simp [chkS1] at h
    · cases t <;> simp [chkS1] at h
  | _ => simp [chkS1] at h
theorem inv_setT {N : List Str} {sc : Scope} {fx : List Nat} {t : Tg} {c : CE} {st : Stmt} (h : chkS1 g N sc fx (.setT t c) st = true) : ∃ xs k p e p', st = .Assign [.Tuple xs k p] e p' ∧ chkT true N sc t (.Tuple xs k p) = true ∧ tgOut fx t = true ∧ chkE g N sc c e = true ∧ notComp e = true ∧ isTup e = false := by
  cases st with
  | Assign ts e p =>
    rcases ts with _ | ⟨t, _ | ⟨t2, ts⟩⟩
    · simp [chkS1] at h
    · cases t with
      | Tuple xs k p2 =>
        simp only [chkS1, Bool.and_eq_true, Bool.not_eq_true'] at h
        obtain ⟨⟨⟨⟨h1, h2⟩, h3⟩, h4⟩, h5⟩ := h
        exact ⟨xs, k, p2, e, p, rfl, h1, h2, h3, h4, h5⟩
      | _ => simp [chkS1] at h
    · cases t <;> simp [chkS1] at h
  | _ => simp [chkS1] at h
theorem inv_aug {N : List Str} {sc : Scope} {fx : List Nat} {i : Nat} {op : Operator} {c : CE} {st : Stmt} (h : chkS1 g N sc fx (.aug i op c) st = true) : ∃ x p e p', st = .AugAssign (.Name x p) op e p' ∧ N[i]? = some x ∧ Loc sc x ∧ okNm x = true ∧ i ∉ fx ∧ chkE g N sc c e = true := by
  cases st with
  | AugAssign t op' e p =>
    cases t with
    | Name x p2 =>
      simp only [chkS1, Bool.and_eq_true] at h
      obtain ⟨⟨⟨⟨⟨h1, h2⟩, h3⟩, h4⟩, h5⟩, h6⟩ := h
      cases of_decide_eq_true h5
      exact ⟨x, p2, e, p, rfl, of_decide_eq_true h1, loc_ok h2, h3, notin_of h4, h6⟩
    | _ => simp [chkS1] at h
  | _ => simp [chkS1] at h
theorem inv_app {N : List Str} {sc : Scope} {fx : List Nat} {i : Nat} {c : CE} {st : Stmt} (h : chkS1 g N sc fx (.app i c) st = true) : ∃ x p ap e p' p'', st = .Expr (.Call (.Attribute (.Name x p) "append" ap) [e] [] p') p'' ∧ N[i]? = some x ∧ Vis sc x ∧ okNm x = true ∧ chkE g N sc c e = true ∧ notStar e = true ∧ (ap.endLine == p'.line) = true := by
  cases st with
  | Expr e p =>
    cases e with
    | Call f xs kws p2 =>
      cases f with
      | Attribute y nm ap =>
        cases y with
        | Name x p3 =>
          rcases kws with _ | ⟨kw, kws⟩
          · rcases xs with _ | ⟨e, _ | ⟨e2, xs⟩⟩
            · simp [chkS1] at h
            · simp only [chkS1, Bool.and_eq_true] at h
              obtain ⟨⟨⟨⟨⟨⟨h1, h2⟩, h3⟩, h4⟩, h5⟩, h6⟩, h7⟩ := h
              cases of_decide_eq_true h1
              exact ⟨x, p3, ap, e, p2, p, rfl, of_decide_eq_true h2, visB_ok h3, h4, h5, h6, h7⟩
            · simp [chkS1] at h
          · rcases xs with _ | ⟨e, _ | ⟨e2, xs⟩⟩ <;> simp [chkS1] at h
        | _ => simp [chkS1] at h
      | _ => simp [chkS1] at h
    | _ => simp [chkS1] at h
  | _ => simp [chkS1] at h
theorem inv_sub {N : List Str} {sc : Scope} {fx : List Nat} {i : Nat} {ix c : CE} {st : Stmt} (h : chkS1 g N sc fx (.sub i ix c) st = true) : ∃ x p s p' e p'', st = .Assign [.Subscript (.Name x p) s p'] e p'' ∧ N[i]? = some x ∧ Vis sc x ∧ okNm x = true ∧ chkE g N sc ix s = true ∧ chkE g N sc c e = true ∧ notComp e = true ∧ notSl s = true := by
  cases st with
  | Assign ts e p =>
    rcases ts with _ | ⟨t, _ | ⟨t2, ts⟩⟩
    · simp [chkS1] at h
    · cases t with
      | Subscript y s p2 =>
        cases y with
        | Name x p3 =>
          simp only [chkS1, Bool.and_eq_true] at h
          obtain ⟨⟨⟨⟨⟨⟨h1, h2⟩, h3⟩, h4⟩, h5⟩, h6⟩, h7⟩ := h
          exact ⟨x, p3, s, p2, e, p, rfl, of_decide_eq_true h1, visB_ok h2, h3, h4, h5, h6, h7⟩
        | _ => simp [chkS1] at h
      | _ => simp [chkS1] at h
    · cases t with
      | Subscript y _ _ => cases y <;> simp [chkS1] at h
      | _ => simp [chkS1] at h
  | _ => simp [chkS1] at h
theorem inv_whl {N : List Str} {sc : Scope} {fx : List Nat} {c : CE} {b : List CS} {st : Stmt} (h : chkS1 g N sc fx (.whl c b) st = true) : ∃ t xs p, st = .While t xs [] p ∧ chkE g N sc c t = true ∧ chkSs g N sc fx b xs = true := by
  cases st with
  | While t xs ys p =>
    rcases ys with _ | ⟨y, ys⟩
    · simp only [chkS1, Bool.and_eq_true] at h
      exact ⟨t, xs, p, rfl, h.1, h.2⟩
    · simp [chkS1] at h
  | _ => simp [chkS1] at h
theorem inv_forr {N : List Str} {sc : Scope} {fx : List Nat} {t : Tg} {s : Src} {es : List CE} {b : List CS} {st : Stmt} (h : chkS1 g N sc fx (.forr t s es b) st = true) : ∃ tg it xs p, st = .For tg it xs [] p ∧ chkS g N sc s es it = true ∧ notSet it = true ∧ chkT true N sc t tg = true ∧ tgOut fx t = true ∧ chkSs g N sc fx b xs = true := by
  cases st with
  | For tg it xs ys p =>
    rcases ys with _ | ⟨y, ys⟩
    · simp only [chkS1, Bool.and_eq_true] at h
      exact ⟨tg, it, xs, p, rfl, h.1.1.1.1, h.1.1.1.2, h.1.1.2, h.1.2, h.2⟩
    · simp [chkS1] at h
  | _ => simp [chkS1] at h
theorem inv_ret {N : List Str} {sc : Scope} {fx : List Nat} {c : CE} {st : Stmt} (h : chkS1 g N sc fx (.ret c) st = true) : ∃ e p, st = .Return (some e) p ∧ chkE g N sc c e = true := by
  cases st with
  | Return e p =>
    cases e with
    | none => simp [chkS1] at h
    | some e => exact ⟨e, p, rfl, h⟩
  | _ => simp [chkS1] at h
mutual
theorem sndSt : ∀ (c : CS) {fx : List Nat} {X : Cx} {W : WX} {n : Nat} (G : Gs g F X W n) (st : Stmt), chkS1 g X.N X.env.scope fx c st = true → SS X W fx (wSt X st) (evS g.sig F c)
  | .set i c, fx, X, W, n, G, st, h => by
    obtain ⟨x, p, e0, p', rfl, h1, h2, h3, h4, h5⟩ := inv_set h
    intro σ e HF H S D E P
    have fin : ∀ {te : TE}, PS X (.Assign [.Name x p] e0 p') (tAsg te (gName i)) → SO X W te (evE g.sig F c) → wSt X (.Assign [.Name x p] e0 p') D σ H := fun {te} hp hs =>
      wSt_of hp (hs.bndS E P fun o e1 v HF1 H1 S1 T st E1 r ap P1 => setS_ok E1 st r ap h3 P1)
    by_cases hc : notComp e0 = true
    · exact fin (ps_set G.e.nd h1 h2 pe_W (sw_none hc) (.inl (G.fn x))) (sndE c G.e e0 h4)
    · cases e0 with
      | ListComp el gs scope q =>
        rcases gs with _ | ⟨⟨tg, iter, is, asy⟩, _ | ⟨g2, gs⟩⟩
        · simp [chkSet, notComp] at h5
        · have hsw := sw_val (X := X) (elt := el) (gs := [⟨tg, iter, is, asy⟩]) (scope := scope) (pos := q) (py := p) (y := x) (l := p'.line) G.kind
          cases hb : (kindB X.env.scope x .local && (p.line == q.line) && !(scope.names.any fun (n, k) => n == x && (k == .local || k == .cell))) with
          | false =>
            rw [hb] at hsw
            exact fin (ps_set G.e.nd h1 h2 pe_W hsw (.inl (G.fn x))) (sndE c G.e _ h4)
          | true =>
            rw [hb] at hsw
            have hl : X.env.scope.names.lookup x = some .local := by
              simp only [Bool.and_eq_true] at hb
              exact kindB_ok hb.1.1
            cases c with
            | lc own t s es ifs elt =>
              obtain ⟨_, _, _, _, _, _, heq, _⟩ := inv_lc h4
              cases heq
              obtain ⟨te, q1, q2⟩ := snd_lc G.e h4 h1 hl hsw
              exact fin q1 q2
            | _ => simp [chkE] at h4
        · simp [chkSet, notComp] at h5
      | SetComp _ _ _ _ => simp [chkSet, notComp] at h5
      | DictComp _ _ _ _ _ => simp [chkSet, notComp] at h5
      | _ => simp [notComp] at hc
  | .setT t c, fx, X, W, n, G, st, h => by
    obtain ⟨xs, k, p, e0, p', rfl, h1, h2, h3, h4, h5⟩ := inv_setT h
    intro σ e HF H S D E P
    have hw : swappedStores [.Tuple xs k p] e0 X.env = pure none := by
      cases e0 <;> first | rfl | (simp [isTup] at h5)
    refine wSt_of (ps_asg pe_W (pg_T G.e.calm G.e.nd (fun _ => G.fn) t _ h1) (sole_none h4) hw rfl) ((dat_of (sndE c G.e e0 h3)).bndS E P fun d e1 _ v HF1 H1 S1 st E1 r P1 => ?_)
    cases ha : asg t d e1 with
    | none => simp only [bnd, asgM, ha] at P1; exact P1.elim
    | some ea =>
      simp only [bnd, asgM, ha] at P1
      exact asg_fx t d v _ _ _ _ ea σ S1 _ h2 ha E1 r fun σ3 S3 E3 hs3 hf3 => P1 σ3 HF1 H1 S3 (Stp.refl.less (U_less hs3)) E3 hf3
  | .aug i op c, fx, X, W, n, G, st, h => by
    obtain ⟨x, p, e0, p', rfl, h1, h2, h3, h4, h5⟩ := inv_aug h
    intro σ e HF H S D E P
    have hv : Vis X.env.scope x := h2.elim .inl fun z => .inr (.inl z)
    refine wSt_of (ps_aug G.e.nd h1 h2 pe_W (ti := rW X (inplaceOp op)) rW_ok (.inl (G.fn x))) ?_
    have P : PSt X W fx HF H σ S (bnd (rdT i) (fun x => bnd (tk c (evE g.sig F c)) fun y => bnd (withT [x, y] (two (augop op))) (setS i)) e) D := P
    cases q : slot e i with
    | none =>
      unfold bnd rdT at P
      rw [q] at P
      exact P.elim
    | some o =>
      obtain ⟨v, q1, q2⟩ := E.val i o q
      have P2 : PSt X W fx HF H σ S (bnd (tk c (evE g.sig F c)) (fun y => bnd (withT [.v i, y] (two (augop op))) (setS i)) e) D := by
        unfold bnd rdT at P
        rw [q] at P
        exact P
      refine ⟨v, q1, (tk_ok h5 (sndE c G.e e0 h5)).bndS E P2 fun t e1 _ w HF1 H1 S1 st1 E1 r1 P3 => ?_⟩
      unfold bnd withT at P3
      cases hl : lates [.v i, t] e1 with
      | none => simp only [hl] at P3; exact P3.elim
      | some os =>
        cases ht : two (augop op) os with
        | none => simp only [hl, ht] at P3; exact P3.elim
        | some o2 =>
          simp only [hl, ht] at P3
          obtain ⟨d1, d2, rfl, q3⟩ := two_ok ht
          obtain ⟨w1, w2, e3, vw1, vw2⟩ := (lates_vw E1 (.cons (show TokR X.K (.v i) v σ HF1 H1 from q1) (.cons r1 .nil)) hl).two
          cases e3
          refine augop_ok (X := X) E1.sub vw1 vw2 q3 fun z HF' H' T st sub r ap => ?_
          have hU : ∀ a, U S1 a → ¬ T a := fun a h z => by
            obtain ⟨u, hu⟩ := U_there E1 h
            rcases st.newS a z with q | q
            · exact q
            · rw [q] at hu; cases hu
          have s2 : Stp (U S1) (fun a => U S1 a ∨ T a) HF1 H1 HF' H' := (st.beside (T := U S1)).more (fun a z => z.elim False.elim id) |>.less fun a z => z.elim .inr .inl
          refine setS_ok (E1.move st.grow (fun a u _ h => st.keep a u h id) (fun a h => ?_) sub) s2 r (fun a z => ⟨ap a z, fun q => hU a q z⟩) h4 P3
          obtain ⟨k, hk⟩ := h
          cases q : HF' a with
          | none => rfl
          | some u =>
            rcases st.newF a u q with z | z | z
            · rw [E1.fre k a hk] at z; cases z
            · exact z.elim
            · obtain ⟨u, hu⟩ := U_there E1 ⟨k, hk⟩
              rw [hu] at z; cases z
  | .app i c, fx, X, W, n, G, st, h => by
    obtain ⟨x, p, ap, e0, p', p'', rfl, h1, h2, h3, h4, h5, h6⟩ := inv_app h
    intro σ e HF H S D E P
    obtain ⟨n1, n2, _⟩ := okNm_ok h3
    have hpe : PE X (.Call (.Attribute (.Name x p) "append" ap) [e0] [] p') (tBM X.K "list" rAppend (tVar i) (tCons (wE X e0) tNil)) :=
      pe_bm PySem.F.plainAttrs_list PySem.F.slot_list_append PySem.F.type_list_append mt_append (pe_var h1 h2 n1 n2) (pa_cons pe_W pa_nil (star_cons h5)) (base_ok rfl) (by
        rw [(star_plain (env := X.env) (pos := p') (xs := [e0]) (by simp [allNotStar, h5])).2.1]
        rfl) h6 (star_cons h5) rfl
    refine wSt_of (ps_expr hpe rfl) ?_
    have P : PSt X W fx HF H σ S (bnd (ownL i) (fun _ => bnd (dat (evE g.sig F c)) (appS i)) e) D := P
    unfold bnd ownL at P
    cases q : slot e i with
    | none => rw [q] at P; exact P.elim
    | some o =>
      cases o with
      | d _ => rw [q] at P; exact P.elim
      | scr _ => rw [q] at P; exact P.elim
      | lst xs =>
        rw [q] at P
        obtain ⟨v, q1, a, vs, rfl, q2, q3, q4⟩ := E.val i _ q
        refine ⟨_, q1, .inl ⟨rfl, vs, SqL.of q2⟩, (dat_of (sndE c G.e e0 h4)).bndS E P fun d e1 _ w HF1 H1 S1 st1 E1 r1 P1 => ?_⟩
        unfold appS at P1
        split at P1
        · rename_i ys q5
          split at P1
          · rename_i hz
            obtain ⟨v', q6, a', vs', rfl, q7, q8, q9⟩ := E1.val i _ q5
            rw [q1] at q6
            cases q6
            have ha : U S1 a := ⟨i, (q9 a).mpr rfl⟩
            refine ⟨a, vs', w, rfl, rfl, q7, by rw [q8.length]; exact lt_line hz, ?_⟩
            have E2 := (E1.drop i).move (HF1 := HF1) (H1 := upd H1 a (.lst (vs' ++ [w]))) (fun _ _ h => h) (fun b u hb hu => by
              have ne : b ≠ a := fun z => by
                subst z
                obtain ⟨j, hj⟩ := hb
                by_cases z2 : j = i
                · rw [z2, putS_same] at hj; exact hj
                · rw [putS_ne z2] at hj
                  exact z2 (E1.dis j i b hj ((q9 b).mpr rfl))
              rw [upd_ne ne]; exact hu) (fun b ⟨j, hj⟩ => (E1.drop i).fre j b hj) (sub_newO E1.sub (E1.fre i a ((q9 a).mpr rfl)))
            have E3 := E2.chg (i := i) (v := .ref a) (o := .lst (ys ++ [d])) (T := S1 i) q1 (by simpa using slot_lt q5) ⟨a, _, rfl, upd_same, q8.append (.cons r1 .nil), q9⟩ fun b z => ⟨E1.fre i b z, fun j ne hj => by
              rw [putS_ne ne] at hj
              exact ne (E1.dis j i b hj z)⟩
            rw [List.set_set] at E3
            refine P1 σ HF1 _ _ ((Stp.wr q7 ha).less fun b hb => ?_) E3 Fx.refl
            obtain ⟨j, hj⟩ := hb
            by_cases z2 : j = i
            · rw [z2, putS_same] at hj; exact ⟨i, hj⟩
            · rw [putS_ne z2, putS_ne z2] at hj; exact ⟨j, hj⟩
          · exact P1.elim
        · exact P1.elim
  | .sub i ix c, fx, X, W, n, G, st, h => by
    obtain ⟨x, p, s0, p', e0, p'', rfl, h1, h2, h3, h4, h5, h6, h7⟩ := inv_sub h
    intro σ e HF H S D E P
    obtain ⟨n1, n2, _⟩ := okNm_ok h3
    have hg : PG X (.Subscript (.Name x p) s0 p') (gSub (tVar i) (wE X s0) rSetL) := pg_sub (pe_var h1 h2 n1 n2) pe_W set_list (by intro v; cases s0 <;> first | rfl | (simp [notSl] at h7))
    refine wSt_of (ps_asg pe_W hg (sole_none h6) (by cases e0 <;> rfl) rfl) ((dat_of (sndE c G.e e0 h5)).bndS E P fun d e1 _ w HF1 H1 S1 st1 E1 r1 P1 => ?_)
    have P1 : PSt X W fx HF1 H1 σ S1 (bnd (rdT i) (fun _ => bnd (dat (evE g.sig F ix)) fun k => bnd (opt (asInt (.d k))) fun k => subS i k d) e1) D := P1
    unfold bnd rdT at P1
    cases q : slot e1 i with
    | none => rw [q] at P1; exact P1.elim
    | some o =>
      rw [q] at P1
      obtain ⟨v, q1, _⟩ := E1.val i _ q
      refine ⟨v, q1, (dat_of (sndE ix G.e s0 h4)).bndS E1 P1 fun k e2 _ kv HF2 H2 S2 st2 E2 r2 P2 => ?_⟩
      cases k with
      | int k =>
        have r2 : Rp X.K HF2 kv (.int k) := r2
        cases r2
        have P2 : PSt X W fx HF2 H2 σ S2 (subS i k d e2) D := P2
        unfold subS at P2
        split at P2
        · rename_i ys q5
          split at P2
          · rename_i j hj
            obtain ⟨v', q6, a', vs', rfl, q7, q8, q9⟩ := E2.val i _ q5
            rw [q1] at q6
            cases q6
            have ha : U S2 a' := ⟨i, (q9 a').mpr rfl⟩
            refine ⟨a', vs', k, j, rfl, rfl, q7, by rw [q8.length]; exact hj, ?_⟩
            have E3 := (E2.drop i).move (HF1 := HF2) (H1 := upd H2 a' (.lst (vs'.set j w))) (fun _ _ h => h) (fun b u hb hu => by
              have ne : b ≠ a' := fun z => by
                subst z
                obtain ⟨j, hj⟩ := hb
                by_cases z2 : j = i
                · rw [z2, putS_same] at hj; exact hj
                · rw [putS_ne z2] at hj
                  exact z2 (E2.dis j i b hj ((q9 b).mpr rfl))
              rw [upd_ne ne]; exact hu) (fun b ⟨j, hj⟩ => (E2.drop i).fre j b hj) (sub_newO E2.sub (E2.fre i a' ((q9 a').mpr rfl)))
            have E4 := E3.chg (i := i) (v := .ref a') (o := .lst (ys.set j d)) (T := S2 i) q1 (by simpa using slot_lt q5) ⟨a', _, rfl, upd_same, RpL.set (Rp.mono st2.grow r1) j q8, q9⟩ fun b z => ⟨E2.fre i b z, fun j ne hj => by
              rw [putS_ne ne] at hj
              exact ne (E2.dis j i b hj z)⟩
            rw [List.set_set] at E4
            refine P2 σ HF2 _ _ ((Stp.wr q7 ha).less fun b hb => ?_) E4 Fx.refl
            obtain ⟨j, hj⟩ := hb
            by_cases z2 : j = i
            · rw [z2, putS_same] at hj; exact ⟨i, hj⟩
            · rw [putS_ne z2, putS_ne z2] at hj; exact ⟨j, hj⟩
          · exact P2.elim
        · exact P2.elim
      | _ => exact P2.elim
  | .ifs c a b, fx, X, W, n, G, st, h => by
    cases st with
    | If t xs ys p =>
      simp only [chkS1, Bool.and_eq_true] at h
      obtain ⟨⟨h1, h2⟩, h3⟩ := h
      intro σ e HF H S D E P
      refine wSt_of (ps_if pt_W pss_W pss_W) ((sndB c G.e t h1).bndS E P fun k e1 _ k' HF1 H1 S1 st1 E1 r1 P1 => ?_)
      have r1 : k' = k := r1
      subst r1
      cases k' with
      | true => exact iteT (sndSs a G xs h2 σ e1 HF1 H1 S1 D E1 P1)
      | false => exact iteF (sndSs b G ys h3 σ e1 HF1 H1 S1 D E1 P1)
    | _ => simp [chkS1] at h
  | .whl c b, fx, X, W, n, G, st, h => by
    obtain ⟨t, xs, p, rfl, h1, h2⟩ := inv_whl h
    intro σ e HF H S D E P
    exact wSt_of (ps_while G.hp pt_W pss_W) (while_ok (sndB c G.e t h1) (sndSs b G xs h2) E P)
  | .forr t s es b, fx, X, W, n, G, st, h => by
    obtain ⟨tg, it, xs, p, rfl, h1, h2, h3, h4, h5⟩ := inv_forr h
    intro σ e HF H S D E P
    have P' : PSt X W fx HF H σ S (bnd (bnd (evFs g.sig F es) fun os => opt (source s os)) (fun ys => walkL t (evSs g.sig F b) ys) e) D := by
      rw [bnd_assoc]; exact P
    exact wSt_of (ps_for G.hp G.e.calm pi_W (pg_T G.e.calm G.e.nd (fun _ => G.fn) t tg h3) pss_W (set_ok h2)) ((sndS s es G.e tg it h1).bndS E P' fun items e1 _ J HF1 H1 S1 st1 E1 wk P1 => walk_ok h4 (sndSs b G xs h5) wk E1 P1)
  | .ret c, fx, X, W, n, G, st, h => by
    obtain ⟨e0, p, rfl, h1⟩ := inv_ret h
    intro σ e HF H S D E P
    exact wSt_of (ps_ret pe_W) ((sndE c G.e e0 h1).bndS E P fun o e1 v HF1 H1 S1 T st E1 r ap P1 => P1 v σ HF1 H1 S1 T st E1 r ap Fx.refl)
  | .retN, fx, X, W, n, G, st, h => by
    cases st with
    | Return e p =>
      cases e with
      | some e => simp [chkS1] at h
      | none =>
        intro σ e HF H S D E P
        exact wSt_of ps_retN (P .non σ HF H S (fun _ => False) (Stp.refl.less fun a z => z.elim id False.elim) E ⟨.non, fun _ z => z⟩ (fun _ z => z.elim) Fx.refl)
    | _ => simp [chkS1] at h
  | .brk, fx, X, W, n, G, st, h => by
    cases st with
    | Break p => exact fun σ e HF H S D E P => wSt_of ps_break (P σ HF H S Stp.refl E Fx.refl)
    | _ => simp [chkS1] at h
  | .cont, fx, X, W, n, G, st, h => by
    cases st with
    | Continue p => exact fun σ e HF H S D E P => wSt_of ps_continue (P σ HF H S Stp.refl E Fx.refl)
    | _ => simp [chkS1] at h
  | .pas, fx, X, W, n, G, st, h => by
    cases st with
    | Pass p => exact fun σ e HF H S D E P => wSt_of ps_pass (P σ HF H S Stp.refl E Fx.refl)
    | _ => simp [chkS1] at h
  | .exp c, fx, X, W, n, G, st, h => by
    cases st with
    | Expr e0 p =>
      simp only [chkS1, Bool.and_eq_true] at h
      intro σ e HF H S D E P
      exact wSt_of (ps_expr pe_W (sw_none h.2)) ((sndE c G.e e0 h.1).bndS E P fun o e1 v HF1 H1 S1 T st E1 r ap P1 => P1 σ HF1 H1 S1 (st.less fun a z => .inl z) E1 Fx.refl)
    | _ => simp [chkS1] at h
  | .never, fx, X, W, n, G, st, h => fun σ e HF H S D E P => P.elim
termination_by c => sizeOf c
theorem sndSs : ∀ (cs : List CS) {fx : List Nat} {X : Cx} {W : WX} {n : Nat} (G : Gs g F X W n) (sts : List Stmt), chkSs g X.N X.env.scope fx cs sts = true → SS X W fx (wSs X sts) (evSs g.sig F cs)
  | [], fx, X, W, n, G, [], h => fun σ e HF H S D E P => wSs_of pss_nil (PSt.nx P E)
  | c :: cs, fx, X, W, n, G, x :: xs, h => by
    obtain ⟨h1, h2⟩ := Bool.and_eq_true_iff.mp (show (chkS1 g X.N X.env.scope fx c x && chkSs g X.N X.env.scope fx cs xs) = true from h)
    intro σ e HF H S D E P
    refine wSs_of (pss_cons ps_W pss_W) (sndSt c G x h1 σ e HF H S _ E ?_)
    unfold evSs at P
    cases hm : evS g.sig F c e with
    | bad => simp only [hm] at P; exact P
    | ex y e1 => simp only [hm] at P; exact P
    | ok f e1 =>
      simp only [hm] at P
      cases f with
      | nx => exact fun σ' HF1 H1 S1 st1 E1 f1 => sndSs cs G xs h2 σ' e1 HF1 H1 S1 D E1 (P.step st1 f1)
      | bk => exact P
      | ct => exact P
      | rt o => exact P
  | [], _, _, _, _, _, _ :: _, h => by simp [chkSs] at h
  | _ :: _, _, _, _, _, _, [], h => by simp [chkSs] at h
termination_by cs => sizeOf cs
end
end
end Z
/-! Z12: a checked def keeps the promise that it does as the evaluator says -/
namespace Z
open PySem PySem.Spec PyProof.Rows L2
/-- a def of the text keeps a promise if its body does -/
theorem fnG_of {P : Program} {w : World} {K : PySem.W.Frag} {mg : Str → Option Value} {base : Heap} {n : Nat} {f : Addr} {fd : FuncData} {name qual : Str} {st : Stmt} {N ps : List Str} {sp : Sp} (F : Fun K name qual st f fd) (sc : FnScope N ps (defScope st))
    (many : ∀ vs H Q E, sp vs H Q E → vs.length = ps.length)
    (body : ∀ (X : Cx) (vs : List V) (Q : VK) (E : XK), X.prog = P → X.w = w → X.K = K → X.mg = mg → X.base = base → X.N = N → X.env.scope = defScope st → X.calm = true → Room n X.A → X.A.guards = some [] → (∀ x, X.fn x = true) →
      Takes X (fun cls d _ H => E cls d H) → PassesOwn (model X.prog X.w) X.A X.env X.xe → sp vs X.H_0 Q E → wSs X (defBody st) { nx := fun _ H' => Q .non H', rt := Q } (L2.start N vs) X.H_0) :
    FnG P w K mg base (n + 1) f fd ps sp := by
  constructor
  · exact many
  obtain ⟨oc, od, kV, doc, pm, an, cdv, ct, osl, rfl, lk, hcd⟩ := F.ex
  intro A outer s H as us vs Q E room gd e0 hb r hsp
  have KX : K.In s.heap := e0.mod.kin.keeps fun b o e => (e0.bs b o e).1
  have lim : s.heap.NoLimit := e0.mod.nolimit.keeps fun b o e => (e0.bs b o e).1
  have hkind : ∀ y ∈ ps.zip us, (defScope st).names.lookup y.1 = some .local ∨ ((defScope st).names.lookup y.1 = some .cell ∧ ((cellsFrom (s.heap.objs.size + 1) (defScope st).names []).lookup y.1).isSome = true) := by
    rintro ⟨m, v⟩ hy
    rcases sc.par m (List.of_mem_zip hy).1 with q | q
    · exact .inl q
    · exact .inr ⟨q, PySem.W.cellsFrom_some _ _ _ (.inl q)⟩
  apply codeAny_call_function (by have := room.dp; omega) (KX _ _ lk) rfl sc.co sc.gen rfl (PySem.W.codeRec_of KX hcd) (hb _ _ _ _ _)
  apply wpAny_newFunctionEnv_cells sc.kind hkind
  rintro env rfl s1 x
  refine ⟨lim.keeps x.toInCall.keep, codeAny_func ?_⟩
  have I : Inv (cxOf (L2.CX P w) P w K mg base N qual (defScope st) f cdv A outer s H E) [] (L2.start N vs) H s1 := inv_start sc room.hd e0 (many _ _ _ _ hsp) r x
  have go := body (cxOf (L2.CX P w) P w K mg base N qual (defScope st) f cdv A outer s H E) vs Q E rfl rfl rfl rfl rfl rfl rfl rfl (room.deeper _) gd (fun _ => rfl) (takes_of rfl rfl rfl rfl) (passes_of rfl) hsp [] s1 I
  apply wpAny_mono go _ fun e s' q => q
  intro fl s' q
  match fl, q with
  | .ret u, ⟨v, σ', H', J, rv, q⟩ => exact ⟨v, H', J.os, J.bare, J.base, J.hok, rv, q⟩
  | .next, ⟨σ', H', J, q⟩ => exact ⟨V.non, H', J.os, J.bare, J.base, J.hok, rfl, q⟩
  | .brk, ⟨_, _, _, q⟩ => exact q.elim
  | .cont, ⟨_, _, _, q⟩ => exact q.elim
def ioSlots : List Bool → Nat → List Nat
  | [], _ => []
  | b :: bs, i => if b then i :: ioSlots bs (i + 1) else ioSlots bs (i + 1)
theorem io_mem : ∀ {bs : List Bool} {i j : Nat}, bs[j]? = some true → i + j ∈ ioSlots bs i
  | [], _, _, h => by simp at h
  | b :: bs, i, 0, h => by
    simp at h
    subst h
    simp [ioSlots]
  | b :: bs, i, j + 1, h => by
    have := io_mem (bs := bs) (i := i + 1) (j := j) (by simpa using h)
    have e : i + 1 + j = i + (j + 1) := by omega
    rw [e] at this
    unfold ioSlots
    split
    · exact List.mem_cons_of_mem _ this
    · exact this
theorem slot_keep : ∀ {bs : List Bool} {e : Env} {j : Nat}, slot (keepIo bs e) j = if bs[j]? = some true then slot e j else none
  | [], e, j => by simp [keepIo, slot]
  | b :: bs, [], 0 => by simp [keepIo, slot]
  | b :: bs, [], j + 1 => by
    have := slot_keep (bs := bs) (e := []) (j := j)
    simpa [keepIo, slot] using this
  | b :: bs, o :: e, 0 => by cases b <;> simp [keepIo, slot]
  | b :: bs, o :: e, j + 1 => by
    have := slot_keep (bs := bs) (e := e) (j := j)
    simpa [keepIo, slot] using this
theorem keep_len : ∀ {bs : List Bool} {e : Env}, (keepIo bs e).length = bs.length
  | [], e => by simp [keepIo]
  | b :: bs, [] => by
    have := keep_len (bs := bs) (e := [])
    simp [keepIo, this]
  | b :: bs, o :: e => by
    have := keep_len (bs := bs) (e := e)
    simp [keepIo, this]
section
variable {K : PySem.W.Frag} {HF H : Hp} {σ : Z.St} {e : Env} {S : Nat → Addr → Prop}
theorem keep_env {bs : List Bool} {σ0 : Z.St} (E : EnvR K HF H σ e S) (l : bs.length = σ0.length) (h : ∀ j : Nat, bs[j]? = some true → σ[j]? = σ0[j]?) : EnvR K HF H σ0 (keepIo bs e) fun (j : Nat) a => bs[j]? = some true ∧ S j a := by
  refine ⟨by rw [keep_len, l], fun i o q => ?_, fun i q a ⟨h1, h2⟩ => ?_, fun i j a h1 h2 => E.dis i j a h1.2 h2.2, fun i a h1 => E.fre i a h1.2, E.sub⟩
  · rw [slot_keep] at q
    split at q
    · rename_i h1
      obtain ⟨v, q1, q2⟩ := E.val i o q
      refine ⟨v, by rw [← h i h1]; exact q1, ?_⟩
      have e1 : (fun a => bs[i]? = some true ∧ S i a) = S i := by
        funext a
        simp [h1]
      show Ow K HF H v o fun a => bs[i]? = some true ∧ S i a
      rw [e1]
      exact q2
    · cases q
  · rw [slot_keep, if_pos h1] at q
    exact E.emp i q a h2
theorem slot_pad {n : Nat} {i : Nat} : slot (e ++ List.replicate n none) i = slot e i := by
  unfold slot
  rw [List.getElem?_append]
  split
  · rfl
  · rename_i h
    rw [List.getElem?_replicate, List.getElem?_eq_none (by omega)]
    split <;> rfl
theorem pad_env {n : Nat} (E : EnvR K HF H σ e S) : EnvR K HF H (σ ++ List.replicate n none) (e ++ List.replicate n none) S := by
  refine ⟨by simp [E.len], fun i o q => ?_, fun i q => ?_, E.dis, E.fre, E.sub⟩
  · rw [slot_pad] at q
    obtain ⟨v, q1, q2⟩ := E.val i o q
    refine ⟨v, ?_, q2⟩
    rw [List.getElem?_append_left]
    · exact q1
    · exact (List.getElem?_eq_some_iff.mp q1).1
  · rw [slot_pad] at q
    exact E.emp i q
end
/-- the checks of a def -/
def chkD (g : Cfg) (d : CD) (st : Stmt) : Bool :=
  chkSs g d.N (defScope st) (ioSlots d.io 0) d.body (defBody st) && decide (d.io.length = d.ps.length)
/-- what stands around every def -/
structure Facts (g : Cfg) (P : Program) (w : World) (K : PySem.W.Frag) (mg : Str → Option Value) (base : Heap) (n : Nat) : Prop where
  glb : ∀ x d, g.C.lookup x = some d → ∃ u v, mg x = some u ∧ RelV v u ∧ Rp K (fun _ => none) v d
  blt : ∀ x, g.B.contains x = true → mg x = none
  fn : ∀ k d, g.T[k]? = some d → ∃ f fd, mg d.name = some (.ref f) ∧ PySem.W.keepIn K (.ref f) = true ∧ Binds K fd d.ps [] ∧ FnG P w K mg base n f fd d.ps (spF K mg (run g.T n k))
theorem start_fx {d : CD} {vs : List V} {os : List O} {σ' : Z.St} (l : d.io.length = vs.length) (f : Fx (ioSlots d.io 0) (L2.start d.N vs) σ') : ∀ j : Nat, d.io[j]? = some true → σ'[j]? = (vs.map some)[j]? := fun j h => by
  have hj : j < d.io.length := (List.getElem?_eq_some_iff.mp h).1
  have q := f j (by simpa using io_mem (i := 0) h)
  rw [q]
  unfold L2.start
  rw [List.getElem?_append_left (by simp; omega)]
/-- THE RULE for a def -/
theorem def_ok {g : Cfg} {P : Program} {w : World} {K : PySem.W.Frag} {mg : Str → Option Value} {base : Heap} {n k : Nat} {f : Addr} {fd : FuncData} {qual : Str} {st : Stmt} {d : CD} (A : Facts g P w K mg base n) (hd : g.T[k]? = some d) (F : Fun K d.name qual st f fd)
    (sc : FnScope d.N d.ps (defScope st)) (hc : chkD g d st = true) : FnG P w K mg base (n + 1) f fd d.ps (spF K mg (run g.T (n + 1) k)) := by
  obtain ⟨c1, c2⟩ := Bool.and_eq_true_iff.mp (show (chkSs g d.N (defScope st) (ioSlots d.io 0) d.body (defBody st) && decide (d.io.length = d.ps.length)) = true from hc)
  have c2 := of_decide_eq_true c2
  have hrun : ∀ os, run g.T (n + 1) k os = runD g.sig (run g.T n) d os := fun os => by
    show (match g.T[k]? with | some d => runD (fun j => ((g.T[j]?).map CD.io).getD []) (run g.T n) d os | none => .bad) = _
    rw [hd]
    rfl
  have hlen : ∀ vs H Q E, spF K mg (run g.T (n + 1) k) vs H Q E → vs.length = d.ps.length := by
    rintro vs H Q E ⟨HF, os, S, e0, q⟩
    rw [hrun] at q
    unfold runD at q
    have l := e0.len
    simp only [List.length_map] at l
    by_cases z : os.length = d.ps.length
    · omega
    · rw [if_neg z] at q
      exact q.elim
  refine fnG_of F sc hlen fun X vs Q E h1 h2 h3 h4 h5 h6 h7 calm room gd fn tk po hsp => ?_
  have hv := hlen _ _ _ _ hsp
  subst h1 h2 h3 h4 h5
  obtain ⟨HF, os, S, e0, q⟩ := hsp
  rw [hrun] at q
  unfold runD at q
  have l := e0.len
  simp only [List.length_map] at l
  rw [if_pos (by omega)] at q
  have G : Gs g (run g.T n) X (fun cls d _ H => E cls d H) n := ⟨⟨calm, h6 ▸ sc.nd, tk, room, gd, A.glb, A.blt, A.fn⟩, po, h7 ▸ sc.kind, fn⟩
  have hs := sndSs d.body (fx := ioSlots d.io 0) G (defBody st) (by rw [h6, h7]; exact c1)
  have e1 : EnvR X.K HF X.H_0 (L2.start d.N vs) (os.map some ++ List.replicate (d.N.length - os.length) none) S := by
    have := pad_env (n := d.N.length - os.length) e0
    unfold L2.start
    rw [← l]
    exact this
  refine hs _ _ HF X.H_0 S _ e1 ?_
  have lpre : d.ps.length ≤ d.N.length := by
    have q := congrArg List.length sc.pre
    rw [List.length_take] at q
    omega
  have back : ∀ {σ' : Z.St} {HF' H' : Hp} {e' : Env} {S' : Nat → Addr → Prop}, EnvR X.K HF' H' σ' e' S' → Fx (ioSlots d.io 0) (L2.start d.N vs) σ' → EnvR X.K HF' H' (vs.map some) (keepIo d.io e') fun j a => d.io[j]? = some true ∧ S' j a :=
    fun {σ' HF' H' e' S'} E' fx => keep_env E' (by simp; omega) (start_fx (os := os) (by omega) fx)
  have small : ∀ {S' : Nat → Addr → Prop} {a : Addr}, U (fun j a => d.io[j]? = some true ∧ S' j a) a → U S' a := fun {S' a} ⟨j, h⟩ => ⟨j, h.2⟩
  revert q
  cases evSs g.sig (run g.T n) d.body (os.map some ++ List.replicate (d.N.length - os.length) none) with
  | bad => exact fun q => q
  | ex x e' => exact fun q cls dd σ' HF' H' S' st1 E1 xr f1 => q cls dd HF' H' _ (st1.less fun a z => small z) (back E1 f1) xr
  | ok fl e' =>
    cases fl with
    | nx => exact fun q σ' HF' H' S' st1 E1 f1 => q .non HF' H' _ (fun _ => False) (st1.less fun a z => z.elim small False.elim) (back E1 f1) ⟨.non, fun _ z => z⟩ fun _ z => z.elim
    | bk => exact fun q => q.elim
    | ct => exact fun q => q.elim
    | rt o => exact fun q v σ' HF' H' S' T st1 E1 r ap f1 => q v HF' H' _ T (st1.less fun a z => z.imp small id) (back E1 f1) r fun a z => ⟨(ap a z).1, fun z2 => (ap a z).2 (small z2)⟩
end Z
/-! Z13: all defs at once; the law's end -/
namespace Z
open PySem PySem.Spec PyProof.Rows L2
/-- what the top has written of a def, and that it was checked -/
structure DefIn (g : Cfg) (K : PySem.W.Frag) (mg : Str → Option Value) (d : CD) : Prop where
  ex : ∃ f fd st qual, mg d.name = some (.ref f) ∧ PySem.W.keepIn K (.ref f) = true ∧ Binds K fd d.ps [] ∧ Fun K d.name qual st f fd ∧ FnScope d.N d.ps (defScope st) ∧ chkD g d st = true
structure Txt (g : Cfg) (K : PySem.W.Frag) (mg : Str → Option Value) : Prop where
  glb : ∀ x d, g.C.lookup x = some d → ∃ u v, mg x = some u ∧ RelV v u ∧ Rp K (fun _ => none) v d
  blt : ∀ x, g.B.contains x = true → mg x = none
  fn : ∀ (k : Nat) (d : CD), g.T[k]? = some d → DefIn g K mg d
theorem tower {g : Cfg} {K : PySem.W.Frag} {mg : Str → Option Value} {P : Program} {w : World} {base : Heap} (t : Txt g K mg) : ∀ n, Facts g P w K mg base n
  | 0 => ⟨t.glb, t.blt, fun k d h => by
    obtain ⟨f, fd, st, qual, h1, h2, h3, h4, h5, h6⟩ := (t.fn k d h).ex
    exact ⟨f, fd, h1, h2, h3, fun _ _ _ _ ⟨_, _, _, _, z⟩ => z.elim, fun _ _ _ _ _ _ _ _ _ _ _ _ _ _ ⟨_, _, _, _, z⟩ => z.elim⟩⟩
  | n + 1 => ⟨t.glb, t.blt, fun k d h => by
    obtain ⟨f, fd, st, qual, h1, h2, h3, h4, h5, h6⟩ := (t.fn k d h).ex
    exact ⟨f, fd, h1, h2, h3, def_ok (tower t n) h h4 h5 h6⟩⟩
/-- the script's abstract heap: it alone, unless it is one of the module's own things -/
def hpOf (K : PySem.W.Frag) (a : Addr) (o : Obj) (xs : List V) : Hp := fun b => if b = a ∧ K.lookup a = none then some (.frz o (.lst xs)) else none
/-- the law's call gives True -/
theorem law_true {P : Program} {w : World} {K : PySem.W.Frag} {mg mb : Str → Option Value} {g : Cfg} {k n : Nat} {d : CD} {fa a : Addr} {s : Shared} {vs : List Value} {ns : List Int} {x : Str}
    (KX : K.In s.heap) (gN : s.heap.Ns mainGlobals mg) (bN : s.heap.Ns builtinsNs mb) (bB : ∀ x : Str, x ≠ "__name__" → mb x = bootBuiltins x) (nl : s.heap.NoLimit) (ng : s.gens = #[])
    (script : s.heap.get? a = some { cls := .type "list", data := .seq vs.toArray }) (hints : IntsAre vs ns) (few : ns.length ≤ sizeLine) (room : Room n callerA)
    (t : Txt g K mg) (hk : g.T[k]? = some d) (hx : d.ps = [x]) (hfa : mg d.name = some (.ref fa)) (yes : ∃ e, run g.T n k [.scr ns] = .ok (.d (.bool true)) e) :
    codeAny (model P w) callerA (.call (.ref fa) ⟨[.ref a], []⟩) (fun r s' => r = .ok (.ret (.bool true)) ∧ OldK s.heap s'.heap ∧ s'.os = s.os ∧ AllBare s'.gens) s := by
  let o : Obj := { cls := .type "list", data := .seq vs.toArray }
  let H : Hp := hpOf K a o (ns.map V.int)
  have rv := vals_ints hints
  have H1 : ∀ b u, H b = some u → b = a ∧ K.lookup a = none ∧ u = .frz o (.lst (ns.map V.int)) := fun b u e => by
    simp only [H, hpOf] at e
    split at e
    · rename_i z
      cases e
      exact ⟨z.1, z.2, rfl⟩
    · cases e
  have hok : HOk P w H s.heap := fun b u e => by
    obtain ⟨rfl, _, rfl⟩ := H1 b u e
    exact ⟨script, by rw [List.length_map]; exact few, vs, _, rv, script⟩
  have kept : ∀ {b : Addr} {u : Obj}, s.heap.get? b = some u → (∀ q, u.data ≠ .seq vs.toArray q) → (hidT s.heap H).get? b = some u := fun {b u} e n => hidT_get e (by
    cases q : H b with
    | none => rfl
    | some z =>
      obtain ⟨rfl, _, _⟩ := H1 b z q
      rw [script] at e
      cases e
      exact (n _ rfl).elim)
  have ns' : ∀ {b : Addr} {m : Str → Option Value}, s.heap.Ns b m → (hidT s.heap H).Ns b m := fun {b m} z => by
    obtain ⟨u, es, ep, e, dd, r⟩ := z
    exact ⟨u, es, ep, kept e (fun q z => by
      rw [dd] at z
      cases z), dd, r⟩
  have kin : K.In (hidT s.heap H) := fun b u e => hidT_get (KX b u e) (by
    cases q : H b with
    | none => rfl
    | some z =>
      obtain ⟨rfl, z2, _⟩ := H1 b z q
      rw [z2] at e
      cases e)
  have lim : (hidT s.heap H).NoLimit := by
    obtain ⟨mc, h1, h2⟩ := nl
    exact ⟨mc, ns' h1, h2⟩
  have e0 : Env0 P w K mg (hidT s.heap H) callerA [] s H :=
    { frames := rfl, mod := ⟨kin, ns' gN, ⟨mb, ns' bN, bB⟩, lim⟩, bs := fun b u e => of_hidT e, bsz := Nat.le_of_eq (hidT_size _ _), funs := trivial, frf := fun b z => absurd z List.not_mem_nil, hok := hok, bare := .of_eq ng }
  obtain ⟨f, fd, h1, _, h3, h4⟩ := (tower (P := P) (w := w) (base := hidT s.heap H) t n).fn k d hk
  rw [hfa] at h1
  cases h1
  have scr : SqL K H a (ns.map V.int) := by
    cases q : K.lookup a with
    | none => exact .inl (.inr ⟨o, by simp [H, hpOf, q]⟩)
    | some u =>
      have z := KX a u q
      rw [script] at z
      cases z
      exact .inr ⟨_, vs.toArray, _, q, rfl, rfl, rfl, by rw [List.size_toArray, hints.length]; exact few, by simpa using rv⟩
  obtain ⟨e, yes⟩ := yes
  have sp : spF K mg (run g.T n k) [.ref a] H (fun v _ => v = .bl true) fun _ _ _ => False := by
    refine ⟨H, [.scr ns], fun _ _ => False, ⟨rfl, fun i u q => ?_, fun _ _ _ z => z, fun _ _ _ z => z.elim, fun _ _ z => z.elim, fun _ _ z => z⟩, ?_⟩
    · match i, q with
      | 0, q =>
        cases q
        exact ⟨_, rfl, ⟨a, rfl, scr⟩, fun _ z => z⟩
      | i + 1, q => simp [slot] at q
    · rw [yes]
      intro v HF' H' S' T _ _ r _
      have r : Rp K HF' v (.bool true) := r.1
      cases r
      rfl
  have b1 : BindsTo s fd ⟨[.ref a], []⟩ (d.ps.zip [.ref a]) := by
    have q := h3 s [.ref a] KX
    simp only [List.append_nil] at q
    exact q (by rw [hx]; rfl)
  apply codeAny_mono (h4.does callerA [] s H ⟨[.ref a], []⟩ [.ref a] [.ref a] _ _ room rfl e0 b1 (.cons rfl .nil) sp)
  intro r s' q
  match r, q with
  | .error u, ⟨_, _, _, _, _, _, _, _, _, _, _, _, z⟩ => exact z.elim
  | .ok .next, q => exact q.elim
  | .ok .brk, q => exact q.elim
  | .ok .cont, q => exact q.elim
  | .ok (.ret u), ⟨v, H', os, bare, un, hok', rr, z⟩ =>
    have z : v = .bl true := z
    subst z
    have rr : u = Value.bool true := rr
    subst rr
    refine ⟨rfl, OldK.of_keep fun b u e => ?_, os, bare⟩
    cases q : H b with
    | none => exact un.keep b u e q (by intro z; exact absurd z List.not_mem_nil) (by simp)
    | some z =>
      obtain ⟨_, _, rfl⟩ := H1 b z q
      have z2 := un.frzs b o _ q
      obtain ⟨e1, _⟩ := hok b _ q
      obtain ⟨e2, _⟩ := hok' b _ z2
      rw [e] at e1
      cases e1
      exact e2
/-- the goal that k_head leaves -/
theorem walk_all {l : PySem.W.OpenLaw} {m n k : Nat} {q : Program} {loose : List Str} {XP : (Str → Option Value) → Heap → Prop} {YP : World → Heap → Prop} {r : DefRec} {K : Params → PySem.W.Frag} {g : Cfg} {d : CD} {x : Str}
    (hn : l.most = some m) (hm : m ≤ sizeLine) (hdf : r.params.defaults = []) (room : Room n callerA) (hY : ∀ (w : World) (h : Heap), YP w h → (K w.params).In h) (hk : g.T[k]? = some d) (hx : d.ps = [x]) (hd : d.name = r.name)
    (t : ∀ (w : World) (mg : Str → Option Value) (h : Heap), (K w.params).In h → h.Ns mainGlobals mg → Txt g (K w.params) mg)
    (yes : ∀ ns : List Int, ns.length ≤ m → ∃ e, run g.T n k [.scr ns] = .ok (.d (.bool true)) e) : PySem.W.WalkO q loose XP YP l.row.toRowW r [] (fun f vs => PySem.call f vs) := by
  apply Att.attach_call hn hdf
  intro w s₀ s₁ mg mb fa o pm cd doc a vs ns G Y ho hd2 hcd hmg hobj hints hlen hg
  have KX := hY w _ Y
  exact law_true KX G.T.g G.T.b G.T.builtins G.T.nolimit hg hobj hints (Nat.le_trans hlen hm) room (t w mg _ KX G.T.g) hk hx (by rw [hd]; exact hmg) (yes ns hlen)
end Z
/-! Z14: what the top has written, by name -/
namespace Z
open PySem PySem.Spec PyProof.Rows L2
def AllP {α : Type} (p : α → Prop) : List α → Prop
  | [] => True
  | a :: l => p a ∧ AllP p l
theorem AllP.get {α : Type} {p : α → Prop} : ∀ {l : List α} {k : Nat} {a : α}, AllP p l → l[k]? = some a → p a
  | _ :: _, 0, _, h, e => by
    simp at e
    subst e
    exact h.1
  | _ :: l, k + 1, _, h, e => AllP.get (l := l) (k := k) h.2 (by simpa using e)
  | [], _, _, _, e => by simp at e
theorem AllP.lookup {p : Str × PyData → Prop} : ∀ {l : List (Str × PyData)} {x : Str} {d : PyData}, AllP p l → l.lookup x = some d → p (x, d)
  | (y, u) :: l, x, d, h, e => by
    rw [List.lookup_cons] at e
    split at e
    · rename_i z
      cases e
      have : x = y := by simpa using z
      subst this
      exact h.1
    · exact AllP.lookup h.2 e
theorem AllP.mem {p : Str → Prop} : ∀ {l : List Str} {x : Str}, AllP p l → l.contains x = true → p x
  | y :: l, x, h, e => by
    rw [List.contains_cons] at e
    rcases Bool.or_eq_true_iff.mp e with e | e
    · have : x = y := by simpa using e
      subst this
      exact h.1
    · exact AllP.mem h.2 e
def DefK (K : PySem.W.Frag) (mg : Str → Option Value) (x : Str) (st : Stmt) : Prop := ∃ f fd, mg x = some (.ref f) ∧ PySem.W.keepIn K (.ref f) = true ∧ Fun K x x st f fd
section
variable {K : PySem.W.Frag} {h : Heap} {mg : Str → Option Value} {x : Str} {st : Stmt} {f : Addr} {oc kV dc pm cd ct : Value} {od an : Option Addr} {sl : Array (Option Value)}
theorem defK_mk (X : K.In h) (G : h.Ns mainGlobals mg) (a : PySem.W.nsIn K mainGlobals x = some (some (.ref f))) (l : K.lookup f = some ⟨oc, od, .func (PySem.W.fnOf x x (defArgs st) (defBody st) (defScope st) .none kV dc pm an cd ct), sl⟩)
    (c : PySem.W.codeIn K cd x = true) (k : PySem.W.keepIn K (.ref f) = true) : DefK K mg x st := ⟨f, _, PySem.W.mg_of X G a, k, fun_mk l c k⟩
theorem defIn_mk {g : Cfg} {d : CD} (D : DefK K mg d.name st) (b : ∀ (kV doc pm : Value) (an : Option Addr) (cdv ct : Value) (us : List Value), us.length = d.ps.length → bindArgs (PySem.W.fnOf d.name d.name (defArgs st) (defBody st) (defScope st) .none kV doc pm an cdv ct) ⟨us, []⟩ = pure (d.ps.zip us))
    (sc : FnScope d.N d.ps (defScope st)) (c : chkD g d st = true) : DefIn g K mg d := by
  obtain ⟨f, fd, h1, h2, F⟩ := D
  exact ⟨f, fd, st, _, h1, h2, F.binds b, F, sc, c⟩
def GlbK (K : PySem.W.Frag) (mg : Str → Option Value) (p : Str × PyData) : Prop := ∃ u v, mg p.1 = some u ∧ RelV v u ∧ Rp K (fun _ => none) v p.2
theorem glbK_str {y : Str} {t : PySem.Tok} (X : K.In h) (G : h.Ns mainGlobals mg) (a : PySem.W.nsIn K mainGlobals x = some (some (.str y t))) : GlbK K mg (x, .str y) := ⟨_, .str y, PySem.W.mg_of X G a, ⟨t, rfl⟩, .str _⟩
theorem glbK_int {y : Int} {t : PySem.Tok} (X : K.In h) (G : h.Ns mainGlobals mg) (a : PySem.W.nsIn K mainGlobals x = some (some (.int y t))) : GlbK K mg (x, .int y) := ⟨_, .int y, PySem.W.mg_of X G a, ⟨t, rfl⟩, .int _⟩
theorem noneK (X : K.In h) (G : h.Ns mainGlobals mg) (a : PySem.W.nsIn K mainGlobals x = some none) : mg x = none := PySem.W.mg_none_of X G a
theorem txt_mk {g : Cfg} (c : AllP (GlbK K mg) g.C) (b : AllP (fun x => mg x = none) g.B) (t : AllP (DefIn g K mg) g.T) : Txt g K mg := ⟨fun x d e => AllP.lookup c e, fun x e => AllP.mem b e, fun k d e => AllP.get t e⟩
end
end Z
local macro_rules | `(tactic| walk_at "def_k") => `(tactic| (refine' Z.defK_mk ?X ?G ?a ?l ?c ?k; (case X => assumption); (case G => assumption); (case a => k_is); (case l => k_is); (case c => k_is); (case k => k_is)))
local macro_rules | `(tactic| walk_at "glb_s") => `(tactic| (refine' Z.glbK_str ?X ?G ?a; (case X => assumption); (case G => assumption); (case a => k_is)))
local macro_rules | `(tactic| walk_at "glb_i") => `(tactic| (refine' Z.glbK_int ?X ?G ?a; (case X => assumption); (case G => assumption); (case a => k_is)))
local macro_rules | `(tactic| walk_at "none_k") => `(tactic| (refine' Z.noneK ?X ?G ?a; (case X => assumption); (case G => assumption); (case a => k_is)))
namespace L84
open PySem PySem.Spec PyProof.Rows L2 Z
def c_DIGITS : PyData := .str "0123456789"
def c_GREATEST : PyData := .int 4294967295
def c_HEX_DIGITS : PyData := .str "0123456789abcdef"
def c_LETTERS : PyData := .str "ABCDEFGHIJKLMNOPQRSTUVWXYZabcdefghijklmnopqrstuvwxyz"
def c_LONGEST_WORD : PyData := .int 20
def c_SYMBOLS : PyData := .str "{}[];:,"
def c_WORD_SIGNS : PyData := .str "ABCDEFGHIJKLMNOPQRSTUVWXYZabcdefghijklmnopqrstuvwxyz0123456789_"
def d__law_tape : CD where
  name := "_law_tape"
  N := ["_law_script", "_law_total", "_law_cell"]
  ps := ["_law_script"]
  io := [false]
  body := [
    .set 1 (.cst (.int 7)),
    .forr (.nm 2) .seq [(.var 0)] [
      .set 1 (.bin .Mod (.blt .int [(.bin .Add (.bin .Mult (.var 1) (.cst (.int 31))) (.blt .abs [(.blt .int [(.var 2)])]))]) (.cst (.int 2147483647)))],
    .ret (.lst [(.blt .list [(.var 0)]), (.cst (.int 0)), (.cst (.int 0)), (.var 1)])]
def d__law_draw : CD where
  name := "_law_draw"
  N := ["_law_tape_here", "_law_many", "_law_number", "_law_place"]
  ps := ["_law_tape_here", "_law_many"]
  io := [true, false]
  body := [
    .ifs (.cmp .Eq (.idx (.var 0) (.cst (.int 2))) (.cst (.int 0))) [
      .set 3 (.idx (.var 0) (.cst (.int 1))),
      .set 2 (.cst (.int 0)),
      .ifs (.cmp .Lt (.var 3) (.blt .len [(.idx (.var 0) (.cst (.int 0)))])) [
        .set 2 (.blt .abs [(.blt .int [(.idx (.idx (.var 0) (.cst (.int 0))) (.var 3))])])] [
        .sub 0 (.cst (.int 3)) (.bin .Mod (.blt .int [(.bin .Add (.bin .Add (.bin .Mult (.idx (.var 0) (.cst (.int 3))) (.cst (.int 48271))) (.var 3)) (.cst (.int 1)))]) (.cst (.int 2147483647))),
        .set 2 (.idx (.var 0) (.cst (.int 3)))],
      .sub 0 (.cst (.int 1)) (.bin .Add (.var 3) (.cst (.int 1))),
      .ifs (.cmp .Lt (.var 2) (.bin .Pow (.cst (.int 10)) (.cst (.int 18)))) [
        .set 2 (.bin .Mod (.blt .int [(.bin .Add (.bin .Add (.bin .Mult (.var 2) (.cst (.int 48271))) (.bin .Mult (.var 3) (.cst (.int 69621)))) (.cst (.int 5)))]) (.cst (.int 2147483647))),
        .set 2 (.bin .Mod (.blt .int [(.bin .Mult (.var 2) (.cst (.int 69621)))]) (.cst (.int 2147483629))),
        .ret (.bin .Mod (.blt .int [(.var 2)]) (.blt .max2 [(.var 1), (.cst (.int 1))]))] [],
      .sub 0 (.cst (.int 2)) (.var 2)] [],
    .set 2 (.idx (.var 0) (.cst (.int 2))),
    .sub 0 (.cst (.int 2)) (.bin .FloorDiv (.var 2) (.blt .max2 [(.var 1), (.cst (.int 2))])),
    .ret (.bin .Mod (.blt .int [(.var 2)]) (.blt .max2 [(.var 1), (.cst (.int 1))]))]
def d__law_spaced : CD where
  name := "_law_spaced"
  N := ["_law_tape_here", "_law_tokens", "_law_signs", "_law_text", "_law_places", "_law_token_here", "_law_blank"]
  ps := ["_law_tape_here", "_law_tokens"]
  io := [true, false]
  body := [
    .set 2 (.cst (.str "abcdefghijklmnopqrstuvwxyzABCDEFGHIJKLMNOPQRSTUVWXYZ0123456789_")),
    .set 3 (.idx (.lst [(.cst (.str "")), (.cst (.str " ")), (.cst (.str "\n"))]) (.call 1 [(.var 0), (.cst (.int 3))])),
    .set 4 (.lst []),
    .forr (.nm 5) .seq [(.var 1)] [
      .set 6 (.idx (.lst [(.cst (.str "")), (.cst (.str "")), (.cst (.str " ")), (.cst (.str "\n")), (.cst (.str "\t"))]) (.call 1 [(.var 0), (.cst (.int 5))])),
      .ifs (.and [(.cmp .Eq (.var 6) (.cst (.str ""))), (.cmp .NotEq (.var 3) (.cst (.str ""))), (.cmp .In (.idx (.var 3) (.neg (.cst (.int 1)))) (.var 2)), (.cmp .In (.idx (.var 5) (.cst (.int 0))) (.var 2))]) [
        .set 6 (.cst (.str " "))] [],
      .set 3 (.bin .Add (.var 3) (.var 6)),
      .app 4 (.blt .len [(.var 3)]),
      .set 3 (.bin .Add (.var 3) (.var 5))],
    .ret (.tup [(.var 3), (.var 4)])]
def d_is_one_of : CD where
  name := "is_one_of"
  N := ["sign", "signs"]
  ps := ["sign", "signs"]
  io := [false, false]
  body := [
    .ret (.and [(.cmp .NotEq (.var 0) (.cst (.str ""))), (.cmp .In (.var 0) (.var 1))])]
def d_sign_at : CD where
  name := "sign_at"
  N := ["text", "place"]
  ps := ["text", "place"]
  io := [false, false]
  body := [
    .ret (.slc (.var 0) (some (.var 1)) (some (.bin .Add (.var 1) (.cst (.int 1)))))]
def d_run_at : CD where
  name := "run_at"
  N := ["text", "place", "end"]
  ps := ["text", "place"]
  io := [false, false]
  body := [
    .set 2 (.var 1),
    .whl (.call 3 [(.call 4 [(.var 0), (.var 2)]), (.glb "WORD_SIGNS" c_WORD_SIGNS)]) [
      .aug 2 .Add (.cst (.int 1))],
    .ret (.slc (.var 0) (some (.var 1)) (some (.var 2)))]
def d_hexadecimal : CD where
  name := "hexadecimal"
  N := ["digits", "number", "sign"]
  ps := ["digits"]
  io := [false]
  body := [
    .ifs (.or [(.cmp .Lt (.blt .len [(.var 0)]) (.cst (.int 1))), (.cmp .Gt (.blt .len [(.var 0)]) (.cst (.int 8)))]) [
      .ret (.cst .none)] [],
    .set 1 (.cst (.int 0)),
    .forr (.nm 2) .seq [(.mth .lower (.var 0) [])] [
      .ifs (.cmp .NotIn (.var 2) (.glb "HEX_DIGITS" c_HEX_DIGITS)) [
        .ret (.cst .none)] [],
      .set 1 (.bin .Add (.bin .Mult (.cst (.int 16)) (.var 1)) (.mth .sindex (.glb "HEX_DIGITS" c_HEX_DIGITS) [(.var 2)]))],
    .ret (.mov 1)]
def d_decimal : CD where
  name := "decimal"
  N := ["run", "sign"]
  ps := ["run"]
  io := [false]
  body := [
    .ifs (.or [(.cmp .Gt (.blt .len [(.var 0)]) (.cst (.int 10))), (.not (.blt .all [(.lc [("sign", 1)] (.nm 1) .seq [(.var 0)] [] (.cmp .In (.var 1) (.glb "DIGITS" c_DIGITS)))]))]) [
      .ret (.cst .none)] [],
    .ifs (.or [(.and [(.cmp .Gt (.blt .len [(.var 0)]) (.cst (.int 1))), (.cmp .Eq (.idx (.var 0) (.cst (.int 0))) (.cst (.str "0")))]), (.cmp .Gt (.blt .int [(.var 0)]) (.glb "GREATEST" c_GREATEST))]) [
      .ret (.cst .none)] [],
    .ret (.blt .int [(.var 0)])]
def d_number_at : CD where
  name := "number_at"
  N := ["text", "place", "begin", "run", "number"]
  ps := ["text", "place"]
  io := [false, false]
  body := [
    .set 2 (.var 1),
    .ifs (.cmp .Eq (.call 4 [(.var 0), (.var 1)]) (.cst (.str "-"))) [
      .set 2 (.bin .Add (.var 1) (.cst (.int 1)))] [],
    .set 3 (.call 5 [(.var 0), (.var 2)]),
    .set 4 (.cst .none),
    .ifs (.cmp .Eq (.slc (.var 3) none (some (.cst (.int 2)))) (.cst (.str "0x"))) [
      .set 4 (.call 6 [(.slc (.var 3) (some (.cst (.int 2))) none)])] [
      .ifs (.call 3 [(.slc (.var 3) none (some (.cst (.int 1)))), (.glb "DIGITS" c_DIGITS)]) [
        .set 4 (.call 7 [(.var 3)])] []],
    .ifs (.cmp .Is (.var 4) (.cst .none)) [
      .never] [],
    .ifs (.cmp .Gt (.var 2) (.var 1)) [
      .set 4 (.neg (.var 4))] [],
    .ret (.tup [(.var 4), (.bin .Add (.bin .Sub (.var 2) (.var 1)) (.blt .len [(.var 3)]))])]
def d_symbol_at : CD where
  name := "symbol_at"
  N := ["text", "place", "sign"]
  ps := ["text", "place"]
  io := [false, false]
  body := [
    .set 2 (.call 4 [(.var 0), (.var 1)]),
    .ifs (.call 3 [(.var 2), (.glb "SYMBOLS" c_SYMBOLS)]) [
      .ret (.mov 2)] [],
    .ifs (.cmp .Eq (.slc (.var 0) (some (.var 1)) (some (.bin .Add (.var 1) (.cst (.int 2))))) (.cst (.str ".."))) [
      .ret (.cst (.str ".."))] [],
    .ifs (.cmp .Eq (.call 5 [(.var 0), (.var 1)]) (.cst (.str "_"))) [
      .ret (.cst (.str "_"))] [],
    .never]
def d_tokens_of : CD where
  name := "tokens_of"
  N := ["text", "found", "place", "sign", "size", "word", "number", "symbol"]
  ps := ["text"]
  io := [false]
  body := [
    .set 1 (.lst []),
    .set 2 (.cst (.int 0)),
    .whl (.cmp .Lt (.var 2) (.blt .len [(.var 0)])) [
      .set 3 (.idx (.var 0) (.var 2)),
      .set 4 (.cst (.int 1)),
      .ifs (.cmp .In (.var 3) (.glb "LETTERS" c_LETTERS)) [
        .set 5 (.call 5 [(.var 0), (.var 2)]),
        .set 4 (.blt .len [(.var 5)]),
        .ifs (.cmp .Gt (.var 4) (.glb "LONGEST_WORD" c_LONGEST_WORD)) [
          .never] [],
        .app 1 (.tup [(.cst (.str "word")), (.var 5), (.var 2)])] [
        .ifs (.or [(.cmp .In (.var 3) (.glb "DIGITS" c_DIGITS)), (.cmp .Eq (.var 3) (.cst (.str "-")))]) [
          .setT (.tup [(.nm 6), (.nm 4)]) (.call 8 [(.var 0), (.var 2)]),
          .app 1 (.tup [(.cst (.str "number")), (.var 6), (.var 2)])] [
          .ifs (.cmp .NotIn (.var 3) (.cst (.str " \n\t"))) [
            .set 7 (.call 9 [(.var 0), (.var 2)]),
            .set 4 (.blt .len [(.var 7)]),
            .app 1 (.tup [(.cst (.str "symbol")), (.var 7), (.var 2)])] []]],
      .aug 2 .Add (.var 4)],
    .ret (.mov 1)]
def d__law_numeral : CD where
  name := "_law_numeral"
  N := ["_law_tape_here", "_law_number", "_law_size", "_law_share", "_law_text", "_law_digits", "_law_k"]
  ps := ["_law_tape_here", "_law_number"]
  io := [true, false]
  body := [
    .set 2 (.ife (.cmp .GtE (.var 1) (.cst (.int 0))) (.var 1) (.neg (.var 1))),
    .set 3 (.call 1 [(.var 0), (.cst (.int 4))]),
    .set 4 (.blt .str [(.var 2)]),
    .ifs (.cmp .Eq (.var 3) (.cst (.int 0))) [
      .set 5 (.idx (.lst [(.cst (.str "0123456789abcdef")), (.cst (.str "0123456789ABCDEF"))]) (.call 1 [(.var 0), (.cst (.int 2))])),
      .set 4 (.idx (.var 5) (.bin .BitAnd (.var 2) (.cst (.int 15)))),
      .forr (.nm 6) .rng1 [(.cst (.int 7))] [
        .set 2 (.bin .RShift (.var 2) (.cst (.int 4))),
        .ifs (.cmp .Gt (.var 2) (.cst (.int 0))) [
          .set 4 (.bin .Add (.idx (.var 5) (.bin .BitAnd (.var 2) (.cst (.int 15)))) (.var 4))] []],
      .ifs (.and [(.cmp .Lt (.blt .len [(.var 4)]) (.cst (.int 8))), (.cmp .Eq (.call 1 [(.var 0), (.cst (.int 2))]) (.cst (.int 0)))]) [
        .set 4 (.bin .Add (.cst (.str "0")) (.var 4))] [],
      .set 4 (.bin .Add (.cst (.str "0x")) (.var 4))] [],
    .ifs (.or [(.cmp .Lt (.var 1) (.cst (.int 0))), (.and [(.cmp .Eq (.var 1) (.cst (.int 0))), (.cmp .Eq (.var 3) (.cst (.int 1)))])]) [
      .ret (.bin .Add (.cst (.str "-")) (.var 4))] [],
    .ret (.mov 4)]
def d__law_token : CD where
  name := "_law_token"
  N := ["_law_tape_here", "_law_signs", "_law_share", "_law_text", "_law_k", "_law_number"]
  ps := ["_law_tape_here"]
  io := [true]
  body := [
    .set 1 (.cst (.str "abcdefghijklmnopqrstuvwxyzABCDEFGHIJKLMNOPQRSTUVWXYZ0123456789_")),
    .set 2 (.call 1 [(.var 0), (.cst (.int 4))]),
    .ifs (.cmp .Eq (.var 2) (.cst (.int 0))) [
      .set 3 (.idx (.var 1) (.call 1 [(.var 0), (.cst (.int 52))])),
      .forr (.nm 4) .rng1 [(.idx (.lst [(.cst (.int 0)), (.cst (.int 1)), (.cst (.int 3)), (.cst (.int 19))]) (.call 1 [(.var 0), (.cst (.int 4))]))] [
        .set 3 (.bin .Add (.var 3) (.idx (.var 1) (.call 1 [(.var 0), (.cst (.int 63))])))],
      .ret (.tup [(.var 3), (.cst (.str "word")), (.var 3)])] [],
    .ifs (.cmp .Eq (.var 2) (.cst (.int 1))) [
      .set 3 (.idx (.lst [(.cst (.str "u8")), (.cst (.str "in")), (.cst (.str "signed")), (.cst (.str "list")), (.cst (.str "i16be")), (.cst (.str "x")), (.cst (.str "a_y")), (.cst (.str "A0_"))]) (.call 1 [(.var 0), (.cst (.int 8))])),
      .ret (.tup [(.var 3), (.cst (.str "word")), (.var 3)])] [],
    .ifs (.cmp .Eq (.var 2) (.cst (.int 2))) [
      .set 5 (.bin .Add (.bin .Mult (.call 1 [(.var 0), (.cst (.int 65536))]) (.call 1 [(.var 0), (.cst (.int 65536))])) (.idx (.lst [(.cst (.int 0)), (.cst (.int 0)), (.cst (.int 1)), (.cst (.int 131070))]) (.call 1 [(.var 0), (.cst (.int 4))]))),
      .ifs (.cmp .Eq (.call 1 [(.var 0), (.cst (.int 3))]) (.cst (.int 0))) [
        .set 5 (.neg (.var 5))] [],
      .ret (.tup [(.call 11 [(.var 0), (.var 5)]), (.cst (.str "number")), (.var 5)])] [],
    .set 3 (.idx (.lst [(.cst (.str "{")), (.cst (.str "}")), (.cst (.str "[")), (.cst (.str "]")), (.cst (.str ";")), (.cst (.str ":")), (.cst (.str ",")), (.cst (.str "..")), (.cst (.str "_"))]) (.call 1 [(.var 0), (.cst (.int 9))])),
    .ret (.tup [(.var 3), (.cst (.str "symbol")), (.var 3)])]
def d_law : CD where
  name := "law"
  N := ["_law_script", "_law_tape_here", "_law_tokens", "_law_text", "_law_due", "_law_told", "_law_places", "_law_k", "_law_token_here"]
  ps := ["_law_script"]
  io := [false]
  body := [
    .set 1 (.call 0 [(.var 0)]),
    .set 2 (.lc [("_law_k", 7)] (.nm 7) .rng1 [(.call 1 [(.var 1), (.cst (.int 31))])] [] (.call 12 [(.var 1)])),
    .setT (.tup [(.nm 3), (.nm 6)]) (.call 2 [(.var 1), (.lc [("_law_token_here", 8)] (.nm 8) .seq [(.var 2)] [] (.idx (.var 8) (.cst (.int 0))))]),
    .set 3 (.bin .Add (.var 3) (.idx (.lst [(.cst (.str "")), (.cst (.str " ")), (.cst (.str "\n")), (.cst (.str "\t\n "))]) (.call 1 [(.var 1), (.cst (.int 4))]))),
    .set 4 (.lc [("_law_k", 7)] (.nm 7) .rng1 [(.blt .len [(.var 2)])] [] (.tup [(.idx (.idx (.var 2) (.var 7)) (.cst (.int 1))), (.idx (.idx (.var 2) (.var 7)) (.cst (.int 2))), (.idx (.var 6) (.var 7))])),
    .set 5 (.call 10 [(.var 3)]),
    .ifs (.cmp .NotEq (.blt .repr [(.var 5)]) (.blt .repr [(.var 4)])) [
      .ret (.cst (.bool false))] [],
    .app 5 (.tup [(.cst (.str "word")), (.cst (.str "a")), (.cst (.int 0))]),
    .ret (.cmp .Eq (.blt .repr [(.call 10 [(.var 3)])]) (.blt .repr [(.var 4)]))]
def T : List CD := [d__law_tape, d__law_draw, d__law_spaced, d_is_one_of, d_sign_at, d_run_at, d_hexadecimal, d_decimal, d_number_at, d_symbol_at, d_tokens_of, d__law_numeral, d__law_token, d_law]
def C : List (Str × PyData) := [("DIGITS", c_DIGITS), ("GREATEST", c_GREATEST), ("HEX_DIGITS", c_HEX_DIGITS), ("LETTERS", c_LETTERS), ("LONGEST_WORD", c_LONGEST_WORD), ("SYMBOLS", c_SYMBOLS), ("WORD_SIGNS", c_WORD_SIGNS)]
def B : List Str := ["abs", "all", "int", "len", "list", "max", "range", "repr", "str"]
-- places: _law_tape 23, _law_draw 24, _law_spaced 26, is_one_of 15, sign_at 14, run_at 16, hexadecimal 18, decimal 17, number_at 19, symbol_at 20, tokens_of 21, _law_numeral 25, _law_token 27, law 28
def top (i : Nat) : Stmt := PySem.Challenge.pw_bytebridge_k84_tokens_of_a_text.main.body.getD i (.Pass ⟨0, 0, 0, 0⟩)
def g : Cfg := ⟨T, C, B, true⟩
theorem k__law_tape : chkD g d__law_tape (top 23) = true := by decide +kernel
theorem s__law_tape : FnScope d__law_tape.N d__law_tape.ps (defScope (top 23)) := ⟨rfl, rfl, rfl, by decide +kernel, rfl, by decide +kernel, by decide +kernel⟩
theorem i__law_tape {K : PySem.W.Frag} {mg : Str → Option Value} (D : DefK K mg "_law_tape" (top 23)) : DefIn g K mg d__law_tape :=
  defIn_mk D (fun _ _ _ _ _ _ us hl => match us, hl with | [_], _ => rfl) s__law_tape k__law_tape
theorem k__law_draw : chkD g d__law_draw (top 24) = true := by decide +kernel
theorem s__law_draw : FnScope d__law_draw.N d__law_draw.ps (defScope (top 24)) := ⟨rfl, rfl, rfl, by decide +kernel, rfl, by decide +kernel, by decide +kernel⟩
theorem i__law_draw {K : PySem.W.Frag} {mg : Str → Option Value} (D : DefK K mg "_law_draw" (top 24)) : DefIn g K mg d__law_draw :=
  defIn_mk D (fun _ _ _ _ _ _ us hl => match us, hl with | [_, _], _ => rfl) s__law_draw k__law_draw
theorem k__law_spaced : chkD g d__law_spaced (top 26) = true := by decide +kernel
theorem s__law_spaced : FnScope d__law_spaced.N d__law_spaced.ps (defScope (top 26)) := ⟨rfl, rfl, rfl, by decide +kernel, rfl, by decide +kernel, by decide +kernel⟩
theorem i__law_spaced {K : PySem.W.Frag} {mg : Str → Option Value} (D : DefK K mg "_law_spaced" (top 26)) : DefIn g K mg d__law_spaced :=
  defIn_mk D (fun _ _ _ _ _ _ us hl => match us, hl with | [_, _], _ => rfl) s__law_spaced k__law_spaced
theorem k_is_one_of : chkD g d_is_one_of (top 15) = true := by decide +kernel
theorem s_is_one_of : FnScope d_is_one_of.N d_is_one_of.ps (defScope (top 15)) := ⟨rfl, rfl, rfl, by decide +kernel, rfl, by decide +kernel, by decide +kernel⟩
theorem i_is_one_of {K : PySem.W.Frag} {mg : Str → Option Value} (D : DefK K mg "is_one_of" (top 15)) : DefIn g K mg d_is_one_of :=
  defIn_mk D (fun _ _ _ _ _ _ us hl => match us, hl with | [_, _], _ => rfl) s_is_one_of k_is_one_of
theorem k_sign_at : chkD g d_sign_at (top 14) = true := by decide +kernel
theorem s_sign_at : FnScope d_sign_at.N d_sign_at.ps (defScope (top 14)) := ⟨rfl, rfl, rfl, by decide +kernel, rfl, by decide +kernel, by decide +kernel⟩
theorem i_sign_at {K : PySem.W.Frag} {mg : Str → Option Value} (D : DefK K mg "sign_at" (top 14)) : DefIn g K mg d_sign_at :=
  defIn_mk D (fun _ _ _ _ _ _ us hl => match us, hl with | [_, _], _ => rfl) s_sign_at k_sign_at
theorem k_run_at : chkD g d_run_at (top 16) = true := by decide +kernel
theorem s_run_at : FnScope d_run_at.N d_run_at.ps (defScope (top 16)) := ⟨rfl, rfl, rfl, by decide +kernel, rfl, by decide +kernel, by decide +kernel⟩
theorem i_run_at {K : PySem.W.Frag} {mg : Str → Option Value} (D : DefK K mg "run_at" (top 16)) : DefIn g K mg d_run_at :=
  defIn_mk D (fun _ _ _ _ _ _ us hl => match us, hl with | [_, _], _ => rfl) s_run_at k_run_at
theorem k_hexadecimal : chkD g d_hexadecimal (top 18) = true := by decide +kernel
theorem s_hexadecimal : FnScope d_hexadecimal.N d_hexadecimal.ps (defScope (top 18)) := ⟨rfl, rfl, rfl, by decide +kernel, rfl, by decide +kernel, by decide +kernel⟩
theorem i_hexadecimal {K : PySem.W.Frag} {mg : Str → Option Value} (D : DefK K mg "hexadecimal" (top 18)) : DefIn g K mg d_hexadecimal :=
  defIn_mk D (fun _ _ _ _ _ _ us hl => match us, hl with | [_], _ => rfl) s_hexadecimal k_hexadecimal
theorem k_decimal : chkD g d_decimal (top 17) = true := by decide +kernel
theorem s_decimal : FnScope d_decimal.N d_decimal.ps (defScope (top 17)) := ⟨rfl, rfl, rfl, by decide +kernel, rfl, by decide +kernel, by decide +kernel⟩
theorem i_decimal {K : PySem.W.Frag} {mg : Str → Option Value} (D : DefK K mg "decimal" (top 17)) : DefIn g K mg d_decimal :=
  defIn_mk D (fun _ _ _ _ _ _ us hl => match us, hl with | [_], _ => rfl) s_decimal k_decimal
theorem k_number_at : chkD g d_number_at (top 19) = true := by decide +kernel
theorem s_number_at : FnScope d_number_at.N d_number_at.ps (defScope (top 19)) := ⟨rfl, rfl, rfl, by decide +kernel, rfl, by decide +kernel, by decide +kernel⟩
theorem i_number_at {K : PySem.W.Frag} {mg : Str → Option Value} (D : DefK K mg "number_at" (top 19)) : DefIn g K mg d_number_at :=
  defIn_mk D (fun _ _ _ _ _ _ us hl => match us, hl with | [_, _], _ => rfl) s_number_at k_number_at
theorem k_symbol_at : chkD g d_symbol_at (top 20) = true := by decide +kernel
theorem s_symbol_at : FnScope d_symbol_at.N d_symbol_at.ps (defScope (top 20)) := ⟨rfl, rfl, rfl, by decide +kernel, rfl, by decide +kernel, by decide +kernel⟩
theorem i_symbol_at {K : PySem.W.Frag} {mg : Str → Option Value} (D : DefK K mg "symbol_at" (top 20)) : DefIn g K mg d_symbol_at :=
  defIn_mk D (fun _ _ _ _ _ _ us hl => match us, hl with | [_, _], _ => rfl) s_symbol_at k_symbol_at
theorem k_tokens_of : chkD g d_tokens_of (top 21) = true := by decide +kernel
theorem s_tokens_of : FnScope d_tokens_of.N d_tokens_of.ps (defScope (top 21)) := ⟨rfl, rfl, rfl, by decide +kernel, rfl, by decide +kernel, by decide +kernel⟩
theorem i_tokens_of {K : PySem.W.Frag} {mg : Str → Option Value} (D : DefK K mg "tokens_of" (top 21)) : DefIn g K mg d_tokens_of :=
  defIn_mk D (fun _ _ _ _ _ _ us hl => match us, hl with | [_], _ => rfl) s_tokens_of k_tokens_of
theorem k__law_numeral : chkD g d__law_numeral (top 25) = true := by decide +kernel
theorem s__law_numeral : FnScope d__law_numeral.N d__law_numeral.ps (defScope (top 25)) := ⟨rfl, rfl, rfl, by decide +kernel, rfl, by decide +kernel, by decide +kernel⟩
theorem i__law_numeral {K : PySem.W.Frag} {mg : Str → Option Value} (D : DefK K mg "_law_numeral" (top 25)) : DefIn g K mg d__law_numeral :=
  defIn_mk D (fun _ _ _ _ _ _ us hl => match us, hl with | [_, _], _ => rfl) s__law_numeral k__law_numeral
theorem k__law_token : chkD g d__law_token (top 27) = true := by decide +kernel
theorem s__law_token : FnScope d__law_token.N d__law_token.ps (defScope (top 27)) := ⟨rfl, rfl, rfl, by decide +kernel, rfl, by decide +kernel, by decide +kernel⟩
theorem i__law_token {K : PySem.W.Frag} {mg : Str → Option Value} (D : DefK K mg "_law_token" (top 27)) : DefIn g K mg d__law_token :=
  defIn_mk D (fun _ _ _ _ _ _ us hl => match us, hl with | [_], _ => rfl) s__law_token k__law_token
theorem k_law : chkD g d_law (top 28) = true := by decide +kernel
theorem s_law : FnScope d_law.N d_law.ps (defScope (top 28)) := ⟨rfl, rfl, rfl, by decide +kernel, rfl, by decide +kernel, by decide +kernel⟩
theorem i_law {K : PySem.W.Frag} {mg : Str → Option Value} (D : DefK K mg "law" (top 28)) : DefIn g K mg d_law :=
  defIn_mk D (fun _ _ _ _ _ _ us hl => match us, hl with | [_], _ => rfl) s_law k_law
end L84
/-! P0: rules for the evaluator -/
namespace Z
open PySem PySem.Spec PyProof.Rows L2
def Ev {α : Type} (m : M α) (e : Env) (Q : α → Env → Prop) : Prop :=
  match m e with
  | .ok a e' => Q a e'
  | _ => False
def Does (T : List CD) (n k : Nat) (os : List O) (Q : O → Env → Prop) : Prop :=
  match run T n k os with
  | .ok a e' => Q a e'
  | _ => False
section
variable {α β : Type} {m : M α} {f : α → M β} {e : Env} {G : Sig} {F : Fn} {Q : β → Env → Prop} {R : α → Env → Prop}
theorem Ev.bnd (h : Ev m e fun a e1 => Ev (f a) e1 Q) : Ev (Z.bnd m f) e Q := by
  unfold Ev Z.bnd at *
  cases q : m e with
  | ok a e1 => simp only [q] at h; exact h
  | ex x e1 => simp only [q] at h
  | bad => simp only [q] at h
theorem Ev.mono {R' : α → Env → Prop} (h : Ev m e R) (k : ∀ a e1, R a e1 → R' a e1) : Ev m e R' := by
  unfold Ev at *
  cases q : m e with
  | ok a e1 => simp only [q] at h; exact k _ _ h
  | ex x e1 => simp only [q] at h
  | bad => simp only [q] at h
theorem Ev.ret {a : α} (h : R a e) : Ev (Z.ret a) e R := h
theorem Ev.opt {o : Option α} {a : α} (q : o = some a) (h : R a e) : Ev (Z.opt o) e R := by
  subst q
  exact h
theorem Ev.ok {a : α} {e1 : Env} (q : m e = .ok a e1) (h : R a e1) : Ev m e R := by
  unfold Ev
  rw [q]
  exact h
end
section
variable {e : Env} {G : Sig} {F : Fn} {i k : Nat} {o : O} {a b c d : CE} {es : List CE} {op op' : Operator} {cp cp' : CmpOp} {x : Str} {p : PyData} {m : M O} {f : List O → Option O} {lo hi : Option CE} {t : Tg} {s : Src} {ifs : List CE} {own : List (Str × Nat)}
  {Q : O → Env → Prop} {QB : Bool → Env → Prop} {QT : Tok → Env → Prop} {QD : PyData → Env → Prop} {QL : List PyData → Env → Prop} {QO : List O → Env → Prop} {QTs : List Tok → Env → Prop} {QI : Option Int → Env → Prop} {QF : Fl → Env → Prop} {QU : Unit → Env → Prop}
/-! tokens, data -/
theorem tk_var (h : slot e i = some o) (q : QT (.v i) e) : Ev (tk (.var i) m) e QT := by
  show Ev (rdT i) e QT
  unfold Ev rdT
  rw [h]
  exact q
theorem tk_e (h : tk c m = bnd m fun o => Z.ret (.o (view o))) (q : Ev m e fun o e1 => QT (.o (view o)) e1) : Ev (tk c m) e QT := by
  rw [h]
  exact Ev.bnd q
theorem dat_e {x : O} (h : Ev m e fun o e1 => ∃ p, asD (view o) = some p ∧ QD p e1) : Ev (dat m) e QD := by
  refine Ev.bnd (h.mono fun o e1 ⟨p, h1, h2⟩ => ?_)
  exact Ev.opt h1 h2
/-! values -/
theorem E_cst (q : Q (.d p) e) : Ev (evE G F (.cst p)) e Q := by simpa [Ev, evE, Z.ret] using q
theorem E_glb (q : Q (.d p) e) : Ev (evE G F (.glb x p)) e Q := by simpa [Ev, evE, Z.ret] using q
theorem E_var (h : slot e i = some o) (q : Q (view o) (e.set i (some (view o)))) : Ev (evE G F (.var i)) e Q := by
  simpa [Ev, evE, rdF, h] using q
theorem E_mov (h : slot e i = some o) (q : Q o (e.set i none)) : Ev (evE G F (.mov i)) e Q := by
  simpa [Ev, evE, mv, h] using q
theorem E_tup (h : Ev (evDs G F es) e fun ds e1 => lim ds.length = true ∧ Q (.d (.tuple ds)) e1) : Ev (evE G F (.tup es)) e Q := by
  rw [evE]
  refine Ev.bnd (h.mono fun ds e1 ⟨h1, h2⟩ => ?_)
  simpa [Ev, chkL, h1, Z.ret] using h2
theorem E_lst (h : Ev (evDs G F es) e fun ds e1 => lim ds.length = true ∧ Q (.lst ds) e1) : Ev (evE G F (.lst es)) e Q := by
  rw [evE]
  refine Ev.bnd (h.mono fun ds e1 ⟨h1, h2⟩ => ?_)
  simpa [Ev, chkL, h1, Z.ret] using h2
theorem withT_e {ts : List Tok} {os : List O} (h1 : lates ts e = some os) (h2 : f os = some o) (q : Q o e) : Ev (withT ts f) e Q := by
  simpa [Ev, withT, h1, h2] using q
theorem withT_b {ts : List Tok} {os : List O} {g : List O → Option Bool} {k : Bool} (h1 : lates ts e = some os) (h2 : g os = some k) (q : QB k e) : Ev (withT ts g) e QB := by
  simpa [Ev, withT, h1, h2] using q
/-- the operands, as they are now -/
abbrev Two (x y : Tok) (e : Env) (R : PyData → PyData → Prop) : Prop := ∃ p q, lates [x, y] e = some [.d p, .d q] ∧ R p q
theorem E_bin (h : Ev (tk a (evE G F a)) e fun x e1 => Ev (tk b (evE G F b)) e1 fun y e2 => Two x y e2 fun p q => ∃ o, binop op p q = some o ∧ Q o e2) : Ev (evE G F (.bin op a b)) e Q := by
  rw [evE]
  refine Ev.bnd (h.mono fun x e1 h => Ev.bnd (h.mono fun y e2 ⟨p, q, h1, o, h2, h3⟩ => ?_))
  exact withT_e h1 h2 h3
theorem E_cmp (h : Ev (tk a (evE G F a)) e fun x e1 => Ev (tk b (evE G F b)) e1 fun y e2 => Two x y e2 fun p q => ∃ k, cmpop cp p q = some k ∧ Q (.d (.bool k)) e2) : Ev (evE G F (.cmp cp a b)) e Q := by
  rw [evE]
  refine Ev.bnd (h.mono fun x e1 h => Ev.bnd (h.mono fun y e2 ⟨p, q, h1, o, h2, h3⟩ => ?_))
  exact withT_e h1 (by show (cmpop cp p q).map _ = _; rw [h2]; rfl) h3
theorem E_idx (h : Ev (tk a (evE G F a)) e fun x e1 => Ev (tk b (evE G F b)) e1 fun y e2 => Two x y e2 fun p q => ∃ k, index p q = some k ∧ Q (.d k) e2) : Ev (evE G F (.idx a b)) e Q := by
  rw [evE]
  refine Ev.bnd (h.mono fun x e1 h => Ev.bnd (h.mono fun y e2 ⟨p, q, h1, o, h2, h3⟩ => ?_))
  exact withT_e h1 (by show (index p q).map _ = _; rw [h2]; rfl) h3
theorem E_neg (h : Ev (evE G F a) e fun o e1 => ∃ i, view o = .d (.int i) ∧ Q (.d (.int (-i))) e1) : Ev (evE G F (.neg a)) e Q := by
  rw [evE]
  refine Ev.bnd (dat_e (x := default) (h.mono fun o e1 ⟨i, h1, h2⟩ => ⟨.int i, by rw [h1]; rfl, ?_⟩))
  exact Ev.opt rfl h2
theorem E_not (h : Ev (tk a (evE G F a)) e fun x e1 => ∃ o k, late x e1 = some o ∧ truth o = some k ∧ Q (.d (.bool (!k))) e1) : Ev (evE G F (.not a)) e Q := by
  rw [evE]
  refine Ev.bnd (h.mono fun x e1 ⟨o, k, h1, h2, h3⟩ => ?_)
  exact withT_e (os := [o]) (by simp [lates, h1]) (by simp [h2]) h3
theorem E_ife (h : Ev (evB G F c) e fun k e1 => if k = true then Ev (evE G F a) e1 Q else Ev (evE G F b) e1 Q) : Ev (evE G F (.ife c a b)) e Q := by
  rw [evE]
  refine Ev.bnd (h.mono fun k e1 h => ?_)
  cases k with
  | true => simpa using h
  | false => simpa using h
theorem E_slc (h : Ev (tk a (evE G F a)) e fun x e1 => Ev (evO G F lo) e1 fun l e2 => Ev (evO G F hi) e2 fun r e3 => ∃ p o, late x e3 = some (.d p) ∧ slice p l r = some o ∧ Q o e3) : Ev (evE G F (.slc a lo hi)) e Q := by
  rw [evE]
  refine Ev.bnd (h.mono fun x e1 h => Ev.bnd (h.mono fun l e2 h => Ev.bnd (h.mono fun r e3 ⟨p, o, h1, h2, h3⟩ => ?_)))
  exact withT_e (os := [.d p]) (by simp [lates, h1]) h2 h3
theorem O_none (q : QI none e) : Ev (evO G F none) e QI := by simpa [Ev, evO, Z.ret] using q
theorem O_some (h : Ev (evE G F c) e fun o e1 => ∃ i, o = .d (.int i) ∧ QI (some i) e1) : Ev (evO G F (some c)) e QI := by
  rw [evO]
  refine Ev.bnd (h.mono fun o e1 ⟨i, h1, h2⟩ => ?_)
  subst h1
  exact Ev.bnd (Ev.opt rfl h2)
theorem Ds_nil (q : QL [] e) : Ev (evDs G F []) e QL := by simpa [Ev, evDs, Z.ret] using q
theorem Ds_cons (h : Ev (evE G F c) e fun o e1 => ∃ p, asD (view o) = some p ∧ Ev (evDs G F es) e1 fun ds e2 => QL (p :: ds) e2) : Ev (evDs G F (c :: es)) e QL := by
  rw [evDs]
  refine Ev.bnd (dat_e (x := default) (h.mono fun o e1 ⟨p, h1, h2⟩ => ⟨p, h1, ?_⟩))
  exact Ev.bnd (h2.mono fun ds e2 q => q)
theorem Fs_nil (q : QO [] e) : Ev (evFs G F []) e QO := by simpa [Ev, evFs, Z.ret] using q
theorem Fs_cons (h : Ev (evE G F c) e fun o e1 => Ev (evFs G F es) e1 fun os e2 => QO (view o :: os) e2) : Ev (evFs G F (c :: es)) e QO := by
  rw [evFs]
  refine Ev.bnd (h.mono fun o e1 h2 => ?_)
  exact Ev.bnd (h2.mono fun ds e2 q => q)
theorem Ts_nil (q : QTs [] e) : Ev (evTs G F []) e QTs := by simpa [Ev, evTs, Z.ret] using q
theorem Ts_cons (h : Ev (tk c (evE G F c)) e fun o e1 => Ev (evTs G F es) e1 fun os e2 => QTs (o :: os) e2) : Ev (evTs G F (c :: es)) e QTs := by
  rw [evTs]
  refine Ev.bnd (h.mono fun o e1 h2 => ?_)
  exact Ev.bnd (h2.mono fun ds e2 q => q)
theorem As_nil (q : QTs [] e) : Ev (evAs G F [] []) e QTs := by simpa [Ev, evAs, Z.ret] using q
theorem As_io {bs : List Bool} (h : Ev (tk c (evE G F c)) e fun o e1 => Ev (evAs G F bs es) e1 fun os e2 => QTs (o :: os) e2) : Ev (evAs G F (true :: bs) (c :: es)) e QTs := by
  rw [evAs, if_pos rfl]
  refine Ev.bnd (h.mono fun o e1 h2 => ?_)
  exact Ev.bnd (h2.mono fun ds e2 q => q)
theorem As_val {bs : List Bool} (h : Ev (evE G F c) e fun o e1 => Ev (evAs G F bs es) e1 fun os e2 => QTs (.o (view o) :: os) e2) : Ev (evAs G F (false :: bs) (c :: es)) e QTs := by
  rw [evAs, if_neg (by decide)]
  refine Ev.bnd (Ev.bnd (h.mono fun o e1 h2 => ?_))
  exact Ev.bnd (h2.mono fun ds e2 q => q)
theorem E_blt {bl : Blt} (h : Ev (evTs G F es) e fun ts e1 => ∃ os o, lates ts e1 = some os ∧ blt bl os = some o ∧ Q o e1) : Ev (evE G F (.blt bl es)) e Q := by
  rw [evE]
  exact Ev.bnd (h.mono fun ts e1 ⟨os, o, h1, h2, h3⟩ => withT_e h1 h2 h3)
theorem E_mth {mt : Mth} (h : Ev (evE G F a) e fun o e1 => ∃ x, view o = .d (.str x) ∧ Ev (evTs G F es) e1 fun ts e2 => ∃ os o, lates ts e2 = some os ∧ mthL mt (.str x) os = some o ∧ Q o e2) : Ev (evE G F (.mth mt a es)) e Q := by
  rw [evE]
  refine Ev.bnd (dat_e (x := default) (h.mono fun o e1 ⟨x, h1, h2⟩ => ⟨.str x, by rw [h1]; rfl, ?_⟩))
  refine Ev.bnd (Ev.opt rfl (Ev.bnd (h2.mono fun ts e2 ⟨os, o, h3, h4, h5⟩ => ?_)))
  exact withT_e h3 h4 h5
/-- a call -/
def Calls (F : Fn) (k : Nat) (ts : List Tok) (e : Env) (Q : O → Env → Prop) : Prop := (lentOf ts).Nodup ∧ ∃ os, lend ts e = some os ∧ match F k os with
  | .ok r os' => Q r (back ts os' (dropL (lentOf ts) e))
  | _ => False
theorem Calls.ev {ts : List Tok} (h : Calls F k ts e Q) : Ev (callF F k ts) e Q := by
  obtain ⟨h1, os, h2, h3⟩ := h
  unfold Ev callF
  rw [if_pos h1, h2]
  cases q : F k os with
  | ok r os' => simp only [q] at h3 ⊢; exact h3
  | ex x os' => simp only [q] at h3
  | bad => simp only [q] at h3
theorem Calls.mk {T : List CD} {n : Nat} {ts : List Tok} {os : List O} (h1 : (lentOf ts).Nodup) (h2 : lend ts e = some os) (h : Does T n k os fun r os' => Q r (back ts os' (dropL (lentOf ts) e))) : Calls (run T n) k ts e Q := by
  refine ⟨h1, os, h2, ?_⟩
  unfold Does at h
  exact h
theorem E_call (h : Ev (evAs G F (G k) es) e fun ts e1 => Calls F k ts e1 Q) : Ev (evE G F (.call k es)) e Q := by
  rw [evE]
  exact Ev.bnd (h.mono fun ts e1 h => h.ev)
theorem E_and1 (h : Ev (evE G F c) e Q) : Ev (evE G F (.and [c])) e Q := by
  rw [evE, evAnd]
  exact h
theorem E_and (h : Ev (evE G F c) e fun o e1 => ∃ k, o = .d (.bool k) ∧ if k = true then Ev (evE G F (.and (d :: es))) e1 Q else Q (.d (.bool false)) e1) : Ev (evE G F (.and (c :: d :: es))) e Q := by
  rw [evE, evAnd]
  refine Ev.bnd (h.mono fun o e1 ⟨k, h1, h2⟩ => ?_)
  subst h1
  refine Ev.bnd (Ev.opt rfl ?_)
  cases k with
  | true => simpa [evE] using h2
  | false => exact h2
theorem E_or1 (h : Ev (evE G F c) e Q) : Ev (evE G F (.or [c])) e Q := by
  rw [evE, evOr]
  exact h
theorem E_or (h : Ev (evE G F c) e fun o e1 => ∃ k, o = .d (.bool k) ∧ if k = true then Q (.d (.bool true)) e1 else Ev (evE G F (.or (d :: es))) e1 Q) : Ev (evE G F (.or (c :: d :: es))) e Q := by
  rw [evE, evOr]
  refine Ev.bnd (h.mono fun o e1 ⟨k, h1, h2⟩ => ?_)
  subst h1
  refine Ev.bnd (Ev.opt rfl ?_)
  cases k with
  | true => exact h2
  | false => simpa [evE] using h2
/-! tests -/
theorem B_not (h : Ev (evB G F a) e fun k e1 => QB (!k) e1) : Ev (evB G F (.not a)) e QB := by
  rw [evB]
  exact Ev.bnd (h.mono fun k e1 q => q)
theorem B_and1 (h : Ev (evB G F c) e QB) : Ev (evB G F (.and [c])) e QB := by
  rw [evB, evAndB]
  exact h
theorem B_and (h : Ev (evB G F c) e fun k e1 => if k = true then Ev (evB G F (.and (d :: es))) e1 QB else QB false e1) : Ev (evB G F (.and (c :: d :: es))) e QB := by
  rw [evB, evAndB]
  refine Ev.bnd (h.mono fun k e1 h2 => ?_)
  cases k with
  | true => simpa [evB] using h2
  | false => exact h2
theorem B_or1 (h : Ev (evB G F c) e QB) : Ev (evB G F (.or [c])) e QB := by
  rw [evB, evOrB]
  exact h
theorem B_or (h : Ev (evB G F c) e fun k e1 => if k = true then QB true e1 else Ev (evB G F (.or (d :: es))) e1 QB) : Ev (evB G F (.or (c :: d :: es))) e QB := by
  rw [evB, evOrB]
  refine Ev.bnd (h.mono fun k e1 h2 => ?_)
  cases k with
  | true => exact h2
  | false => simpa [evB] using h2
theorem B_var {k : Bool} (h : slot e i = some o) (h2 : truth (view o) = some k) (q : QB k e) : Ev (evB G F (.var i)) e QB := by
  rw [evB]
  refine Ev.bnd ?_
  unfold Ev rdT
  rw [h]
  show Ev _ e QB
  exact withT_b (os := [view o]) (by simp [lates, late, h]) h2 q
theorem B_cst {k : Bool} (h2 : truth (.d p) = some k) (q : QB k e) : Ev (evB G F (.cst p)) e QB := by
  rw [evB]
  exact Ev.opt h2 q
theorem B_cmp (h : Ev (tk a (evE G F a)) e fun x e1 => Ev (tk b (evE G F b)) e1 fun y e2 => Two x y e2 fun p q => ∃ k, cmpop cp p q = some k ∧ QB k e2) : Ev (evB G F (.cmp cp a b)) e QB := by
  rw [evB]
  refine Ev.bnd (h.mono fun x e1 h => Ev.bnd (h.mono fun y e2 ⟨p, q, h1, o, h2, h3⟩ => ?_))
  exact withT_b h1 h2 h3
theorem B_call (h : Ev (evE G F (.call k es)) e fun o e1 => ∃ k, truth (view o) = some k ∧ QB k e1) : Ev (evB G F (.call k es)) e QB := by
  rw [evE] at h
  rw [evB]
  exact Ev.bnd (h.mono fun o e1 ⟨k, h1, h2⟩ => Ev.opt h1 h2)
theorem B_blt {bl : Blt} (h : Ev (evE G F (.blt bl es)) e fun o e1 => ∃ k, truth (view o) = some k ∧ QB k e1) : Ev (evB G F (.blt bl es)) e QB := by
  rw [evE] at h
  rw [evB]
  exact Ev.bnd (h.mono fun o e1 ⟨k, h1, h2⟩ => Ev.opt h1 h2)
theorem Bs_nil (q : QB true e) : Ev (evBs G F []) e QB := by simpa [Ev, evBs, Z.ret] using q
theorem Bs_one (h : Ev (evB G F c) e QB) : Ev (evBs G F [c]) e QB := by
  rw [evBs]
  exact h
/-! comprehensions -/
theorem turns_e {vs : List Nat} {test : M Bool} {elt : M PyData} : ∀ {xs acc : List PyData} {e : Env} (I : Nat → List PyData → Env → Prop), acc.length + xs.length ≤ 16777216 →
    (∀ (j : Nat) (x : PyData) (acc : List PyData) (e : Env), xs[j]? = some x → I j acc e → ∃ e1, asg t x (wipeE e vs) = some e1 ∧ Ev test e1 fun k e2 => if k = true then Ev elt e2 fun y e3 => I (j + 1) (acc ++ [y]) e3 else I (j + 1) acc e2) →
    I 0 acc e → (∀ ys e1, I xs.length ys e1 → QL ys e1) → Ev (turns vs t test elt xs acc) e QL
  | [], acc, e, I, hl, hs, h0, hd => hd acc e h0
  | x :: xs, acc, e, I, hl, hs, h0, hd => by
    obtain ⟨e1, h1, h2⟩ := hs 0 x acc e rfl h0
    have key : Ev (bnd (asgM t x) (fun _ => bnd test fun b => if b then bnd elt fun y => Z.ret (some y) else Z.ret none)) (wipeE e vs) fun r e3 => match r with | some y => I 1 (acc ++ [y]) e3 | none => I 1 acc e3 := by
      refine Ev.bnd ?_
      unfold Ev asgM
      rw [h1]
      refine Ev.bnd (h2.mono fun k e2 h3 => ?_)
      cases k with
      | true =>
        have h4 : Ev elt e2 fun y e3 => I 1 (acc ++ [y]) e3 := by simpa using h3
        exact Ev.bnd (h4.mono fun y e3 q => q)
      | false => exact h3
    unfold Ev turns
    unfold Ev at key
    cases q : bnd (asgM t x) (fun _ => bnd test fun b => if b then bnd elt fun y => Z.ret (some y) else Z.ret none) (wipeE e vs) with
    | bad => simp only [q] at key
    | ex x1 e3 => simp only [q] at key
    | ok r e3 =>
      simp only [q] at key ⊢
      cases r with
      | some y =>
        have hl : acc.length + (xs.length + 1) ≤ 16777216 := by simpa using hl
        simp only [if_pos (show acc.length < 16777216 by omega)]
        exact turns_e (xs := xs) (acc := acc ++ [y]) (fun j => I (j + 1)) (by simp; omega) (fun j x acc e hj hI => hs (j + 1) x acc e (by simpa using hj) hI) key fun ys e1 h => hd ys e1 h
      | none =>
        have hl : acc.length + (xs.length + 1) ≤ 16777216 := by simpa using hl
        exact turns_e (xs := xs) (acc := acc) (fun j => I (j + 1)) (by omega) (fun j x acc e hj hI => hs (j + 1) x acc e (by simpa using hj) hI) key fun ys e1 h => hd ys e1 h
theorem E_lc {elt : CE} (h : Ev (evFs G F es) e fun os e1 => ∃ xs, source s os = some xs ∧ xs.length ≤ 16777216 ∧ Ev (turns (own.map (·.2)) t (evBs G F ifs) (dat (evE G F elt)) xs []) e1 fun ys e2 => Q (.lst ys) (restE e1 e2 (own.map (·.2)))) : Ev (evE G F (.lc own t s es ifs elt)) e Q := by
  rw [evE]
  refine Ev.bnd (h.mono fun os e1 ⟨xs, h1, _, h2⟩ => ?_)
  refine Ev.bnd (Ev.opt h1 ?_)
  unfold Ev compr
  unfold Ev at h2
  cases q : turns (own.map (·.2)) t (evBs G F ifs) (dat (evE G F elt)) xs [] e1 with
  | ok ys e2 => simp only [q] at h2 ⊢; exact h2
  | ex x e2 => simp only [q] at h2
  | bad => simp only [q] at h2
/-! statements -/
theorem Ss_nil (q : QF .nx e) : Ev (evSs G F []) e QF := by simpa [Ev, evSs, Z.ret] using q
theorem Ss_cons {st : CS} {ss : List CS} (h : Ev (evS G F st) e fun f e1 => match f with | .nx => Ev (evSs G F ss) e1 QF | f => QF f e1) : Ev (evSs G F (st :: ss)) e QF := by
  unfold Ev at *
  unfold evSs
  cases q : evS G F st e with
  | ok f e1 =>
    simp only [q] at h ⊢
    cases f with
    | nx => exact h
    | bk => exact h
    | ct => exact h
    | rt o => exact h
  | ex x e1 => simp only [q] at h
  | bad => simp only [q] at h
theorem S_set (h : Ev (evE G F c) e fun o e1 => i < e1.length ∧ QF .nx (e1.set i (some o))) : Ev (evS G F (.set i c)) e QF := by
  rw [evS]
  refine Ev.bnd (h.mono fun o e1 ⟨h1, h2⟩ => ?_)
  unfold Ev setS
  rw [if_pos h1]
  exact h2
theorem S_setT (h : Ev (evE G F c) e fun o e1 => ∃ p e2, asD (view o) = some p ∧ asg t p e1 = some e2 ∧ QF .nx e2) : Ev (evS G F (.setT t c)) e QF := by
  rw [evS]
  refine Ev.bnd (dat_e (x := default) (h.mono fun o e1 ⟨p, e2, h1, h2, h3⟩ => ⟨p, h1, ?_⟩))
  refine Ev.bnd ?_
  unfold Ev asgM
  rw [h2]
  exact h3
theorem S_aug (h0 : slot e i = some o) (h : Ev (tk c (evE G F c)) e fun y e1 => Two (.v i) y e1 fun p q => ∃ o, augop op p q = some o ∧ i < e1.length ∧ QF .nx (e1.set i (some o))) : Ev (evS G F (.aug i op c)) e QF := by
  rw [evS]
  refine Ev.bnd ?_
  unfold Ev rdT
  rw [h0]
  refine Ev.bnd (h.mono fun y e1 ⟨p, q, h1, o, h2, h3, h4⟩ => ?_)
  refine Ev.bnd (withT_e h1 h2 ?_)
  unfold Ev setS
  rw [if_pos h3]
  exact h4
theorem S_app {xs : List PyData} (h0 : slot e i = some (.lst xs)) (h : Ev (evE G F c) e fun o e1 => ∃ p ys, asD (view o) = some p ∧ slot e1 i = some (.lst ys) ∧ ys.length < 16777216 ∧ QF .nx (e1.set i (some (.lst (ys ++ [p]))))) : Ev (evS G F (.app i c)) e QF := by
  rw [evS]
  refine Ev.bnd ?_
  unfold Ev ownL
  rw [h0]
  refine Ev.bnd (dat_e (x := default) (h.mono fun o e1 ⟨p, ys, h1, h2, h3, h4⟩ => ⟨p, h1, ?_⟩))
  unfold Ev appS
  rw [h2]
  simp only [if_pos h3]
  exact h4
theorem S_sub {ix : CE} (h : Ev (evE G F c) e fun o e1 => ∃ p o1, asD (view o) = some p ∧ slot e1 i = some o1 ∧ Ev (evE G F ix) e1 fun o2 e2 => ∃ k ys j, view o2 = .d (.int k) ∧ slot e2 i = some (.lst ys) ∧ ixN ys.length k = some j ∧ QF .nx (e2.set i (some (.lst (ys.set j p))))) : Ev (evS G F (.sub i ix c)) e QF := by
  rw [evS]
  refine Ev.bnd (dat_e (x := default) (h.mono fun o e1 ⟨p, o1, h1, h2, h3⟩ => ⟨p, h1, ?_⟩))
  refine Ev.bnd ?_
  unfold Ev rdT
  rw [h2]
  refine Ev.bnd (dat_e (x := default) (h3.mono fun o2 e2 ⟨k, ys, j, h4, h5, h6, h7⟩ => ⟨.int k, by rw [h4]; rfl, ?_⟩))
  refine Ev.bnd (Ev.opt rfl ?_)
  unfold Ev subS
  rw [h5]
  simp only [h6]
  exact h7
theorem S_ifs {ss ts : List CS} (h : Ev (evB G F c) e fun k e1 => if k = true then Ev (evSs G F ss) e1 QF else Ev (evSs G F ts) e1 QF) : Ev (evS G F (.ifs c ss ts)) e QF := by
  rw [evS]
  refine Ev.bnd (h.mono fun k e1 h => ?_)
  cases k with
  | true => simpa using h
  | false => simpa using h
theorem S_ret (h : Ev (evE G F c) e fun o e1 => QF (.rt o) e1) : Ev (evS G F (.ret c)) e QF := by
  rw [evS]
  exact Ev.bnd (h.mono fun o e1 q => q)
theorem S_exp (h : Ev (evE G F c) e fun _ e1 => QF .nx e1) : Ev (evS G F (.exp c)) e QF := by
  rw [evS]
  exact Ev.bnd (h.mono fun o e1 q => q)
/-- a for's turns, by an invariant -/
theorem walk_e {body : M Fl} : ∀ {xs : List PyData} {e : Env} (I : Nat → Env → Prop), I 0 e → (∀ (j : Nat) (x : PyData) (e : Env), xs[j]? = some x → I j e → ∃ e1, asg t x e = some e1 ∧ Ev body e1 fun f e2 => match f with | .nx => I (j + 1) e2 | .ct => I (j + 1) e2 | .bk => QF .nx e2 | .rt o => QF (.rt o) e2) →
    (∀ e, I xs.length e → QF .nx e) → Ev (walkL t body xs) e QF
  | [], e, I, h0, hs, hd => hd e h0
  | x :: xs, e, I, h0, hs, hd => by
    obtain ⟨e1, h1, h2⟩ := hs 0 x e rfl h0
    have ih := fun e2 (h : I 1 e2) => walk_e (xs := xs) (e := e2) (fun j => I (j + 1)) h (fun j x e hj hI => hs (j + 1) x e (by simpa using hj) hI) hd
    unfold Ev walkL
    unfold Ev at h2
    simp only [asgM, h1]
    cases q : body e1 with
    | bad => simp only [q] at h2
    | ex x1 e2 => simp only [q] at h2
    | ok f e2 =>
      simp only [q] at h2 ⊢
      cases f with
      | nx => exact ih e2 h2
      | ct => exact ih e2 h2
      | bk => exact h2
      | rt o => exact h2
theorem S_for {ss : List CS} (h : Ev (evFs G F es) e fun os e1 => ∃ xs, source s os = some xs ∧ Ev (walkL t (evSs G F ss) xs) e1 QF) : Ev (evS G F (.forr t s es ss)) e QF := by
  rw [evS]
  exact Ev.bnd (h.mono fun os e1 ⟨xs, h1, h2⟩ => Ev.bnd (Ev.opt h1 h2))
theorem while_e {test : M Bool} {body : M Fl} (I : Nat → Env → Prop) : ∀ {n m : Nat} {e : Env}, m < n → I m e → (∀ (m : Nat) (e : Env), I m e → Ev test e fun k e1 => if k = true then Ev body e1 fun f e2 => match f with | .nx => ∃ m', m' < m ∧ I m' e2 | .ct => ∃ m', m' < m ∧ I m' e2 | .bk => QF .nx e2 | .rt o => QF (.rt o) e2 else QF .nx e1) →
    Ev (whileN test body n) e QF
  | 0, m, e, hm, _, _ => by omega
  | n + 1, m, e, hm, h0, hs => by
    have h := hs m e h0
    have ih := fun m' e2 (l : m' < m) (h : I m' e2) => while_e I (n := n) (m := m') (e := e2) (by omega) h hs
    unfold Ev whileN
    unfold Ev at h
    cases q : test e with
    | bad => simp only [q] at h
    | ex x1 e2 => simp only [q] at h
    | ok k e1 =>
      simp only [q] at h ⊢
      cases k with
      | false => exact h
      | true =>
        simp only [if_true] at h ⊢
        cases q2 : body e1 with
        | bad => simp only [q2] at h
        | ex x1 e2 => simp only [q2] at h
        | ok f e2 =>
          simp only [q2] at h ⊢
          cases f with
          | nx => obtain ⟨m', l, h⟩ := h; exact ih m' e2 l h
          | ct => obtain ⟨m', l, h⟩ := h; exact ih m' e2 l h
          | bk => exact h
          | rt o => exact h
theorem S_whl {ss : List CS} (h : Ev (whileN (evB G F c) (evSs G F ss) turnsMost) e QF) : Ev (evS G F (.whl c ss)) e QF := by
  rw [evS]
  exact h
/-- a def -/
theorem Does.mk {T : List CD} {n : Nat} {d : CD} {os : List O} (hd : T[k]? = some d) (hl : os.length = d.ps.length) (h : Ev (evSs (fun j => ((T[j]?).map CD.io).getD []) (run T n) d.body) (os.map some ++ List.replicate (d.N.length - os.length) none) fun f e => match f with
    | .rt o => Q o (keepIo d.io e)
    | .nx => Q (.d .none) (keepIo d.io e)
    | _ => False) : Does T (n + 1) k os Q := by
  unfold Does
  have hr : run T (n + 1) k os = runD (fun j => ((T[j]?).map CD.io).getD []) (run T n) d os := by
    show (match T[k]? with | some d => runD (fun j => ((T[j]?).map CD.io).getD []) (run T n) d os | none => .bad) = _
    rw [hd]
  rw [hr]
  unfold runD
  rw [if_pos hl]
  unfold Ev at h
  cases q : evSs (fun j => ((T[j]?).map CD.io).getD []) (run T n) d.body (os.map some ++ List.replicate (d.N.length - os.length) none) with
  | bad => simp only [q] at h
  | ex x e => simp only [q] at h
  | ok f e =>
    simp only [q] at h ⊢
    cases f with
    | nx => exact h
    | bk => exact h
    | ct => exact h
    | rt o => exact h
theorem Does.mono {T : List CD} {n : Nat} {os : List O} {Q' : O → Env → Prop} (h : Does T n k os Q) (q : ∀ o e, Q o e → Q' o e) : Does T n k os Q' := by
  unfold Does at *
  cases z : run T n k os with
  | bad => simp only [z] at h
  | ex x e => simp only [z] at h
  | ok r e => simp only [z] at h ⊢; exact q _ _ h
end
end Z
/-! P1: the tactic -/
namespace Z
open PySem PySem.Spec PyProof.Rows L2
theorem bin_mul {i j : Int} (h : okMul i j = true) : binop .Mult (.int i) (.int j) = some (.d (.int (i * j))) := by
  show (if okMul i j = true then _ else _) = _
  rw [if_pos h]
theorem bin_mod {i j : Int} (h : 0 < j) : binop .Mod (.int i) (.int j) = some (.d (.int (i % j))) := by
  show (if decide (0 < j) = true then _ else _) = _
  rw [if_pos (decide_eq_true h)]
theorem bin_shr {i j : Int} (h : 0 ≤ j) : binop .RShift (.int i) (.int j) = some (.d (.int (i / 2 ^ j.toNat))) := by
  show (if decide (0 ≤ j) = true then _ else _) = _
  rw [if_pos (decide_eq_true h)]
theorem bin_div {i j : Int} (h : 0 < j) (h2 : j < 2 ^ 64) : binop .FloorDiv (.int i) (.int j) = some (.d (.int (i / j))) := by
  have e : j.natAbs < 2 ^ 4000 := by
    have : (2 : Nat) ^ 64 ≤ 2 ^ 4000 := Nat.pow_le_pow_right (by decide) (by decide)
    omega
  show (if (decide (0 < j) && decide (j.natAbs < 2 ^ 4000)) = true then _ else _) = _
  rw [if_pos (by simp only [decide_eq_true h, decide_eq_true e, Bool.and_self])]
theorem bin_str {x y : Str} (h : lim (x.length + y.length) = true) : binop .Add (.str x) (.str y) = some (.d (.str (x ++ y))) := by
  show (if lim (x.length + y.length) = true then _ else _) = _
  rw [if_pos h]
theorem okMul_l {i j : Int} (h : decide (-(2 ^ 64) < i ∧ i < 2 ^ 64) = true) : okMul i j = true := by
  unfold okMul
  rw [h]
  rfl
theorem okMul_r {i j : Int} (h : decide (-(2 ^ 64) < j ∧ j < 2 ^ 64) = true) : okMul i j = true := by
  unfold okMul
  rw [h, Bool.or_true]
theorem ifT {c : Bool} {A B : Prop} (h : c = true) (a : A) : if c = true then A else B := by rw [if_pos h]; exact a
theorem ifF {c : Bool} {A B : Prop} (h : c = false) (a : B) : if c = true then A else B := by subst h; exact a
theorem ifB {c : Bool} {A B : Prop} (h1 : c = true → A) (h2 : c = false → B) : if c = true then A else B := by
  cases c with
  | true => exact h1 rfl
  | false => exact h2 rfl
theorem ifD {p : Prop} [Decidable p] {A B : Prop} (h1 : p → A) (h2 : ¬ p → B) : if decide p = true then A else B := by
  by_cases h : p
  · rw [if_pos (decide_eq_true h)]; exact h1 h
  · rw [decide_eq_false h]; exact h2 h
theorem blt_len_str {x : Str} (h : lim x.length = true) : blt .len [.d (.str x)] = some (.d (.int x.length)) := by
  show (if lim x.length = true then _ else _) = _
  rw [if_pos h]
theorem lt_len {i n : Nat} (h : Nat.blt i n = true) : i < n := by simpa using h
theorem ixN_nat {n : Nat} {i : Int} (h : 0 ≤ i) (h2 : i < n) : ixN n i = some i.toNat := by
  unfold ixN
  rw [if_pos h, if_pos h2]
theorem index_list {xs : List PyData} {i : Int} {x : PyData} (h : 0 ≤ i) (h2 : xs[i.toNat]? = some x) : index (.list xs) (.int i) = some x := by
  have l : i.toNat < xs.length := (List.getElem?_eq_some_iff.mp h2).1
  show (ixN xs.length i).bind _ = _
  rw [ixN_nat h (by omega)]
  exact h2
theorem Ss_consN {G : Sig} {F : Fn} {QF : Fl → Env → Prop} {e e' : Env} {st : CS} {ss : List CS} (q : e = e') (h : Ev (evS G F st) e' fun f e1 => match f with | .nx => Ev (evSs G F ss) e1 QF | f => QF f e1) : Ev (evSs G F (st :: ss)) e QF := by
  subst q
  exact Ss_cons h
theorem src_rng1 {j : Int} (h : okR j = true) : source .rng1 [.d (.int j)] = some (rangeD 0 j.toNat) := by
  show (if okR j = true then _ else _) = _
  rw [if_pos h]
theorem src_rng2 {i j : Int} (h : okR i = true) (h2 : okR j = true) : source .rng2 [.d (.int i), .d (.int j)] = some (rangeD i (j - i).toNat) := by
  show (if (okR i && okR j) = true then _ else _) = _
  rw [h, h2]
  rfl
theorem Two_mk {x y : Tok} {e : Env} {R : PyData → PyData → Prop} {p q : PyData} (h : lates [x, y] e = some [.d p, .d q]) (k : R p q) : Two x y e R := ⟨p, q, h, k⟩
theorem ex1 {α β : Type} {f g : α → β} {r : α → Prop} (x : α) (h : f x = g x) (k : r x) : ∃ x, f x = g x ∧ r x := ⟨x, h, k⟩
theorem ex2 {α γ β : Type} {f g : α → γ → β} {r : α → γ → Prop} (x : α) (y : γ) (h : f x y = g x y) (k : r x y) : ∃ x y, f x y = g x y ∧ r x y := ⟨x, y, h, k⟩
theorem ex22 {α γ β β' : Type} {f g : α → γ → β} {f' g' : α → γ → β'} {r : α → γ → Prop} (x : α) (y : γ) (h : f x y = g x y) (h' : f' x y = g' x y) (k : r x y) : ∃ x y, f x y = g x y ∧ f' x y = g' x y ∧ r x y := ⟨x, y, h, h', k⟩
theorem ex33 {α γ δ β β' β'' : Type} {f g : α → γ → δ → β} {f' g' : α → γ → δ → β'} {f'' g'' : α → γ → δ → β''} {r : α → γ → δ → Prop} (x : α) (y : γ) (z : δ) (h : f x y z = g x y z) (h' : f' x y z = g' x y z) (h'' : f'' x y z = g'' x y z) (k : r x y z) : ∃ x y z, f x y z = g x y z ∧ f' x y z = g' x y z ∧ f'' x y z = g'' x y z ∧ r x y z := ⟨x, y, z, h, h', h'', k⟩
end Z

local macro_rules | `(tactic| walk_at "zleaf") => `(tactic| first
  | with_reducible assumption
  | ((with_reducible show Z.source _ _ = _); (try dsimp only [Z.view]); first | with_reducible assumption | exact Z.src_rng1 (by decide +kernel) | exact Z.src_rng2 (by decide +kernel) (by decide +kernel) | ((fail_if_success (with_reducible show Z.source Z.Src.rng1 _ = _)); (fail_if_success (with_reducible show Z.source Z.Src.rng2 _ = _)); exact rfl))
  | ((fail_if_success (with_reducible show Z.source _ _ = _)); walk_at "zleaf2"))
local macro_rules | `(tactic| walk_at "zleaf2") => `(tactic| first
  | ((with_reducible show _ < _); first | omega | exact Z.lt_len rfl | assumption)
  | ((with_reducible show _ ≤ _); first | omega | assumption)
  | ((with_reducible show _ = _); walk_at "zleaf3"))
local macro_rules | `(tactic| walk_at "zleaf3") => `(tactic| first
  | exact rfl
  | exact Z.bin_mul (Z.okMul_r rfl)
  | exact Z.bin_mul (Z.okMul_l rfl)
  | exact Z.bin_mod (by decide)
  | exact Z.bin_mod (by omega)
  | exact Z.bin_shr (by decide)
  | exact Z.bin_div (by omega) (by omega)
  | exact Z.bin_mod (by split <;> omega)
  | exact Z.bin_div (by split <;> omega) (by split <;> omega)
  | exact Z.bin_str (by first | with_reducible assumption | assumption | (simp only [Z.lim, decide_eq_true_eq]; omega))
  | exact Z.blt_len_str (by first | with_reducible assumption | assumption | (simp only [Z.lim, decide_eq_true_eq]; omega))
  | omega
  | assumption)
/- an environment, or a list of things, written out -/
local macro_rules | `(tactic| walk_at "zn") => `(tactic| (
  (try dsimp only [List.set_cons_zero, List.set_cons_succ, Z.view, Z.back, Z.dropL, Z.lentOf, Z.restE, Z.slot, Z.keepIo, List.map, List.getElem?_cons_zero, List.getElem?_cons_succ, Option.getD, Z.wipeE, List.replicate, List.length_cons, List.length_nil, List.cons_append, List.nil_append, List.append_nil])
  first | done | exact rfl))
local macro_rules | `(tactic| walk_at "zE") => `(tactic| first
  | ((with_reducible show Z.Ev (Z.evE _ _ (Z.CE.cst _)) _ _); refine Z.E_cst ?_)
  | ((with_reducible show Z.Ev (Z.evE _ _ (Z.CE.var _)) _ _); refine Z.E_var rfl ?_)
  | ((with_reducible show Z.Ev (Z.evE _ _ (Z.CE.call _ _)) _ _); refine Z.E_call ?_)
  | ((with_reducible show Z.Ev (Z.evE _ _ (Z.CE.bin _ _ _)) _ _); refine Z.E_bin ?_)
  | ((with_reducible show Z.Ev (Z.evE _ _ (Z.CE.idx _ _)) _ _); refine Z.E_idx ?_)
  | ((with_reducible show Z.Ev (Z.evE _ _ (Z.CE.tup _)) _ _); refine Z.E_tup ?_)
  | ((with_reducible show Z.Ev (Z.evE _ _ (Z.CE.lst _)) _ _); refine Z.E_lst ?_)
  | ((with_reducible show Z.Ev (Z.evE _ _ (Z.CE.blt _ _)) _ _); refine Z.E_blt ?_)
  | ((with_reducible show Z.Ev (Z.evE _ _ (Z.CE.cmp _ _ _)) _ _); refine Z.E_cmp ?_)
  | ((with_reducible show Z.Ev (Z.evE _ _ (Z.CE.glb _ _)) _ _); refine Z.E_glb ?_)
  | ((with_reducible show Z.Ev (Z.evE _ _ (Z.CE.mov _)) _ _); refine Z.E_mov rfl ?_)
  | ((with_reducible show Z.Ev (Z.evE _ _ (Z.CE.neg _)) _ _); refine Z.E_neg ?_)
  | ((with_reducible show Z.Ev (Z.evE _ _ (Z.CE.not _)) _ _); refine Z.E_not ?_)
  | ((with_reducible show Z.Ev (Z.evE _ _ (Z.CE.ife _ _ _)) _ _); refine Z.E_ife ?_)
  | ((with_reducible show Z.Ev (Z.evE _ _ (Z.CE.slc _ _ _)) _ _); refine Z.E_slc ?_)
  | ((with_reducible show Z.Ev (Z.evE _ _ (Z.CE.mth _ _ _)) _ _); refine Z.E_mth ?_)
  | ((with_reducible show Z.Ev (Z.evE _ _ (Z.CE.lc _ _ _ _ _ _)) _ _); refine Z.E_lc ?_)
  | ((with_reducible show Z.Ev (Z.evE _ _ (Z.CE.and _)) _ _); first | refine Z.E_and ?_ | refine Z.E_and1 ?_)
  | ((with_reducible show Z.Ev (Z.evE _ _ (Z.CE.or _)) _ _); first | refine Z.E_or ?_ | refine Z.E_or1 ?_))
local macro_rules | `(tactic| walk_at "zB") => `(tactic| first
  | ((with_reducible show Z.Ev (Z.evB _ _ (Z.CE.cmp _ _ _)) _ _); refine Z.B_cmp ?_)
  | ((with_reducible show Z.Ev (Z.evB _ _ (Z.CE.and _)) _ _); first | refine Z.B_and ?_ | refine Z.B_and1 ?_)
  | ((with_reducible show Z.Ev (Z.evB _ _ (Z.CE.or _)) _ _); first | refine Z.B_or ?_ | refine Z.B_or1 ?_)
  | ((with_reducible show Z.Ev (Z.evB _ _ (Z.CE.not _)) _ _); refine Z.B_not ?_)
  | ((with_reducible show Z.Ev (Z.evB _ _ (Z.CE.var _)) _ _); refine Z.B_var rfl rfl ?_)
  | ((with_reducible show Z.Ev (Z.evB _ _ (Z.CE.cst _)) _ _); refine Z.B_cst rfl ?_)
  | ((with_reducible show Z.Ev (Z.evB _ _ (Z.CE.call _ _)) _ _); refine Z.B_call ?_)
  | ((with_reducible show Z.Ev (Z.evB _ _ (Z.CE.blt _ _)) _ _); refine Z.B_blt ?_))
local macro_rules | `(tactic| walk_at "zS") => `(tactic| first
  | ((with_reducible show Z.Ev (Z.evS _ _ (Z.CS.set _ _)) _ _); refine Z.S_set ?_)
  | ((with_reducible show Z.Ev (Z.evS _ _ (Z.CS.ifs _ _ _)) _ _); refine Z.S_ifs ?_)
  | ((with_reducible show Z.Ev (Z.evS _ _ (Z.CS.ret _)) _ _); refine Z.S_ret ?_)
  | ((with_reducible show Z.Ev (Z.evS _ _ (Z.CS.app _ _)) _ _); refine Z.S_app rfl ?_)
  | ((with_reducible show Z.Ev (Z.evS _ _ (Z.CS.forr _ _ _ _)) _ _); refine Z.S_for ?_)
  | ((with_reducible show Z.Ev (Z.evS _ _ (Z.CS.setT _ _)) _ _); refine Z.S_setT ?_)
  | ((with_reducible show Z.Ev (Z.evS _ _ (Z.CS.aug _ _ _)) _ _); refine Z.S_aug rfl ?_)
  | ((with_reducible show Z.Ev (Z.evS _ _ (Z.CS.sub _ _ _)) _ _); refine Z.S_sub ?_)
  | ((with_reducible show Z.Ev (Z.evS _ _ (Z.CS.whl _ _)) _ _); refine Z.S_whl ?_)
  | ((with_reducible show Z.Ev (Z.evS _ _ (Z.CS.exp _)) _ _); refine Z.S_exp ?_))
local macro_rules | `(tactic| walk_at "zM") => `(tactic| first
  | ((with_reducible show Z.Ev (Z.evE _ _ _) _ _); walk_at "zE")
  | ((with_reducible show Z.Ev (Z.tk _ _) _ _); first | refine Z.tk_var rfl ?_ | refine Z.tk_e rfl ?_)
  | ((with_reducible show Z.Ev (Z.evSs _ _ _) _ _); first | refine Z.Ss_nil ?_ | refine Z.Ss_consN (by walk_at "zn") ?_)
  | ((with_reducible show Z.Ev (Z.evS _ _ _) _ _); walk_at "zS")
  | ((with_reducible show Z.Ev (Z.evB _ _ _) _ _); walk_at "zB")
  | ((with_reducible show Z.Ev (Z.evDs _ _ _) _ _); first | refine Z.Ds_nil ?_ | refine Z.Ds_cons ?_)
  | ((with_reducible show Z.Ev (Z.evTs _ _ _) _ _); first | refine Z.Ts_nil ?_ | refine Z.Ts_cons ?_)
  | ((with_reducible show Z.Ev (Z.evAs _ _ _ _) _ _); first | refine Z.As_nil ?_ | refine Z.As_io ?_ | refine Z.As_val ?_)
  | ((with_reducible show Z.Ev (Z.evFs _ _ _) _ _); first | refine Z.Fs_nil ?_ | refine Z.Fs_cons ?_)
  | ((with_reducible show Z.Ev (Z.evBs _ _ _) _ _); first | refine Z.Bs_nil ?_ | refine Z.Bs_one ?_)
  | ((with_reducible show Z.Ev (Z.evO _ _ _) _ _); first | refine Z.O_none ?_ | refine Z.O_some ?_)
  | ((with_reducible show Z.Ev (Z.dat _) _ _); refine Z.dat_e (x := default) ?_))
local macro_rules | `(tactic| walk_at "zstep") => `(tactic| first
  | ((with_reducible show Z.Ev _ _ _); walk_at "zM")
  | ((with_reducible show Z.Two _ _ _ _); refine Z.Two_mk (by walk_at "zleaf") ?_)
  | ((with_reducible show Z.Calls _ _ _ _ _); refine Z.Calls.mk (by simp [Z.lentOf]) rfl ?_)
  | ((with_reducible show Exists _); first | refine ⟨_, (by walk_at "zleaf" : _ = _), ?_⟩ | refine ⟨_, _, (by walk_at "zleaf" : _ = _), ?_⟩ | refine ⟨_, _, (by walk_at "zleaf" : _ = _), (by walk_at "zleaf" : _ = _), ?_⟩ | refine ⟨_, _, _, by walk_at "zleaf", by walk_at "zleaf", by walk_at "zleaf", ?_⟩)
  | ((with_reducible show (_ = _) ∧ _); refine ⟨by walk_at "zleaf", ?_⟩)
  | ((with_reducible show (_ < _) ∧ _); refine ⟨by walk_at "zleaf", ?_⟩)
  | ((with_reducible show (_ ≤ _) ∧ _); refine ⟨by walk_at "zleaf", ?_⟩)
  | ((with_reducible show ite _ _ _); first | refine Z.ifT rfl ?_ | refine Z.ifF rfl ?_)
  | dsimp only)
local macro_rules | `(tactic| walk_at "zs") => `(tactic| repeat walk_at "zstep")
local macro_rules | `(tactic| walk_at "zto 1") => `(tactic| repeat ((fail_if_success (with_reducible show Z.Ev (Z.evSs _ _ [_]) _ _)); walk_at "zstep"))
local macro_rules | `(tactic| walk_at "zto 2") => `(tactic| repeat ((fail_if_success (with_reducible show Z.Ev (Z.evSs _ _ [_, _]) _ _)); walk_at "zstep"))
local macro_rules | `(tactic| walk_at "zto 3") => `(tactic| repeat ((fail_if_success (with_reducible show Z.Ev (Z.evSs _ _ [_, _, _]) _ _)); walk_at "zstep"))
local macro_rules | `(tactic| walk_at "zto 4") => `(tactic| repeat ((fail_if_success (with_reducible show Z.Ev (Z.evSs _ _ [_, _, _, _]) _ _)); walk_at "zstep"))
local macro_rules | `(tactic| walk_at "zto 5") => `(tactic| repeat ((fail_if_success (with_reducible show Z.Ev (Z.evSs _ _ [_, _, _, _, _]) _ _)); walk_at "zstep"))
local macro_rules | `(tactic| walk_at "zto 6") => `(tactic| repeat ((fail_if_success (with_reducible show Z.Ev (Z.evSs _ _ [_, _, _, _, _, _]) _ _)); walk_at "zstep"))
namespace L84
open PySem PySem.Spec PyProof.Rows L2 Z
theorem dm__law_tape {n : Nat} {o0 : O} {Q : O → Z.Env → Prop} (h : Ev (evSs (fun j => ((T[j]?).map CD.io).getD []) (Z.run T n) d__law_tape.body) [some o0, none, none] fun f e => match f with | .rt o => Q o (keepIo [false] e) | .nx => Q (.d .none) (keepIo [false] e) | _ => False) : Does T (n + 1) 0 [o0] Q := Does.mk (d := d__law_tape) rfl rfl h
theorem dm__law_draw {n : Nat} {o0 o1 : O} {Q : O → Z.Env → Prop} (h : Ev (evSs (fun j => ((T[j]?).map CD.io).getD []) (Z.run T n) d__law_draw.body) [some o0, some o1, none, none] fun f e => match f with | .rt o => Q o (keepIo [true, false] e) | .nx => Q (.d .none) (keepIo [true, false] e) | _ => False) : Does T (n + 1) 1 [o0, o1] Q := Does.mk (d := d__law_draw) rfl rfl h
theorem dm__law_spaced {n : Nat} {o0 o1 : O} {Q : O → Z.Env → Prop} (h : Ev (evSs (fun j => ((T[j]?).map CD.io).getD []) (Z.run T n) d__law_spaced.body) [some o0, some o1, none, none, none, none, none] fun f e => match f with | .rt o => Q o (keepIo [true, false] e) | .nx => Q (.d .none) (keepIo [true, false] e) | _ => False) : Does T (n + 1) 2 [o0, o1] Q := Does.mk (d := d__law_spaced) rfl rfl h
theorem dm_is_one_of {n : Nat} {o0 o1 : O} {Q : O → Z.Env → Prop} (h : Ev (evSs (fun j => ((T[j]?).map CD.io).getD []) (Z.run T n) d_is_one_of.body) [some o0, some o1] fun f e => match f with | .rt o => Q o (keepIo [false, false] e) | .nx => Q (.d .none) (keepIo [false, false] e) | _ => False) : Does T (n + 1) 3 [o0, o1] Q := Does.mk (d := d_is_one_of) rfl rfl h
theorem dm_sign_at {n : Nat} {o0 o1 : O} {Q : O → Z.Env → Prop} (h : Ev (evSs (fun j => ((T[j]?).map CD.io).getD []) (Z.run T n) d_sign_at.body) [some o0, some o1] fun f e => match f with | .rt o => Q o (keepIo [false, false] e) | .nx => Q (.d .none) (keepIo [false, false] e) | _ => False) : Does T (n + 1) 4 [o0, o1] Q := Does.mk (d := d_sign_at) rfl rfl h
theorem dm_run_at {n : Nat} {o0 o1 : O} {Q : O → Z.Env → Prop} (h : Ev (evSs (fun j => ((T[j]?).map CD.io).getD []) (Z.run T n) d_run_at.body) [some o0, some o1, none] fun f e => match f with | .rt o => Q o (keepIo [false, false] e) | .nx => Q (.d .none) (keepIo [false, false] e) | _ => False) : Does T (n + 1) 5 [o0, o1] Q := Does.mk (d := d_run_at) rfl rfl h
theorem dm_hexadecimal {n : Nat} {o0 : O} {Q : O → Z.Env → Prop} (h : Ev (evSs (fun j => ((T[j]?).map CD.io).getD []) (Z.run T n) d_hexadecimal.body) [some o0, none, none] fun f e => match f with | .rt o => Q o (keepIo [false] e) | .nx => Q (.d .none) (keepIo [false] e) | _ => False) : Does T (n + 1) 6 [o0] Q := Does.mk (d := d_hexadecimal) rfl rfl h
theorem dm_decimal {n : Nat} {o0 : O} {Q : O → Z.Env → Prop} (h : Ev (evSs (fun j => ((T[j]?).map CD.io).getD []) (Z.run T n) d_decimal.body) [some o0, none] fun f e => match f with | .rt o => Q o (keepIo [false] e) | .nx => Q (.d .none) (keepIo [false] e) | _ => False) : Does T (n + 1) 7 [o0] Q := Does.mk (d := d_decimal) rfl rfl h
theorem dm_number_at {n : Nat} {o0 o1 : O} {Q : O → Z.Env → Prop} (h : Ev (evSs (fun j => ((T[j]?).map CD.io).getD []) (Z.run T n) d_number_at.body) [some o0, some o1, none, none, none] fun f e => match f with | .rt o => Q o (keepIo [false, false] e) | .nx => Q (.d .none) (keepIo [false, false] e) | _ => False) : Does T (n + 1) 8 [o0, o1] Q := Does.mk (d := d_number_at) rfl rfl h
theorem dm_symbol_at {n : Nat} {o0 o1 : O} {Q : O → Z.Env → Prop} (h : Ev (evSs (fun j => ((T[j]?).map CD.io).getD []) (Z.run T n) d_symbol_at.body) [some o0, some o1, none] fun f e => match f with | .rt o => Q o (keepIo [false, false] e) | .nx => Q (.d .none) (keepIo [false, false] e) | _ => False) : Does T (n + 1) 9 [o0, o1] Q := Does.mk (d := d_symbol_at) rfl rfl h
theorem dm_tokens_of {n : Nat} {o0 : O} {Q : O → Z.Env → Prop} (h : Ev (evSs (fun j => ((T[j]?).map CD.io).getD []) (Z.run T n) d_tokens_of.body) [some o0, none, none, none, none, none, none, none] fun f e => match f with | .rt o => Q o (keepIo [false] e) | .nx => Q (.d .none) (keepIo [false] e) | _ => False) : Does T (n + 1) 10 [o0] Q := Does.mk (d := d_tokens_of) rfl rfl h
theorem dm__law_numeral {n : Nat} {o0 o1 : O} {Q : O → Z.Env → Prop} (h : Ev (evSs (fun j => ((T[j]?).map CD.io).getD []) (Z.run T n) d__law_numeral.body) [some o0, some o1, none, none, none, none, none] fun f e => match f with | .rt o => Q o (keepIo [true, false] e) | .nx => Q (.d .none) (keepIo [true, false] e) | _ => False) : Does T (n + 1) 11 [o0, o1] Q := Does.mk (d := d__law_numeral) rfl rfl h
theorem dm__law_token {n : Nat} {o0 : O} {Q : O → Z.Env → Prop} (h : Ev (evSs (fun j => ((T[j]?).map CD.io).getD []) (Z.run T n) d__law_token.body) [some o0, none, none, none, none, none] fun f e => match f with | .rt o => Q o (keepIo [true] e) | .nx => Q (.d .none) (keepIo [true] e) | _ => False) : Does T (n + 1) 12 [o0] Q := Does.mk (d := d__law_token) rfl rfl h
theorem dm_law {n : Nat} {o0 : O} {Q : O → Z.Env → Prop} (h : Ev (evSs (fun j => ((T[j]?).map CD.io).getD []) (Z.run T n) d_law.body) [some o0, none, none, none, none, none, none, none, none] fun f e => match f with | .rt o => Q o (keepIo [false] e) | .nx => Q (.d .none) (keepIo [false] e) | _ => False) : Does T (n + 1) 13 [o0] Q := Does.mk (d := d_law) rfl rfl h
abbrev tapeO (xs : List Int) (p c t : Int) : O := .lst [.list (xs.map .int), .int p, .int c, .int t]
def Tape (o : O) : Prop := ∃ xs p c t, o = tapeO xs p c t ∧ 0 ≤ p
theorem emod_bd {v m j : Int} (hm : 1 ≤ m) (h : j = if 1 > m then 1 else m) : 0 ≤ v % j ∧ v % j < m := by
  rw [if_neg (by omega)] at h
  subst h
  exact ⟨Int.emod_nonneg _ (by omega), Int.emod_lt_of_pos _ (by omega)⟩
theorem draw_ok {n : Nat} {o : O} {m : Int} {Q : O → Z.Env → Prop} (ht : Tape o) (hm : 1 ≤ m) (hm2 : m < 2 ^ 63) (k : ∀ v o', Tape o' → 0 ≤ v → v < m → Q (.d (.int v)) [some o', none]) : Does T (n + 1) 1 [o, .d (.int m)] Q := by
  obtain ⟨xs, p, c, t, rfl, hp⟩ := ht
  refine dm__law_draw ?_
  have fin : ∀ {v p' c' t' : Int} {j : Int} (h : 0 ≤ p'), (j = if 1 > m then 1 else m) → Q (.d (.int (v % j))) [some (tapeO xs p' c' t'), none] := fun {v p' c' t' j} h hj => k _ _ ⟨xs, p', c', t', rfl, h⟩ (emod_bd hm hj).1 (emod_bd hm hj).2
  walk_at "zs"
  refine ifD (fun hc => ?_) (fun hc => ?_)
  · walk_at "zs"
    refine ifD (fun h1 => ?_) (fun h1 => ?_)
    · have hl : p.toNat < xs.length := by
        have h1 : p < ((xs.map PyData.int).length : Nat) := h1
        rw [List.length_map] at h1
        omega
      walk_at "zs"
      refine ⟨_, index_list (x := .int xs[p.toNat]) hp (by rw [List.getElem?_map, List.getElem?_eq_getElem hl]; rfl), ?_⟩
      walk_at "zs"
      refine ifD (fun h2 => ?_) (fun h2 => ?_)
      · walk_at "zs"
        exact fin (by omega) rfl
      · walk_at "zs"
        exact fin (by omega) rfl
    · walk_at "zs"
      refine ifD (fun h2 => ?_) (fun h2 => ?_)
      · walk_at "zs"
        exact fin (by omega) rfl
      · walk_at "zs"
        exact fin (by omega) rfl
  · walk_at "zs"
    exact fin hp rfl
theorem tape_ok {n : Nat} {ns : List Int} {Q : O → Z.Env → Prop} (k : ∀ o', Tape o' → Q o' [none]) : Does T (n + 1) 0 [.scr ns] Q := by
  refine dm__law_tape ?_
  walk_at "zs"
  refine walk_e (fun j e => ∃ t c, e = [some (.scr ns), some (.d (.int t)), c]) ⟨_, _, rfl⟩ ?_ ?_
  · rintro j x e hx ⟨t, c, rfl⟩
    rw [List.getElem?_map] at hx
    obtain ⟨i, hi, rfl⟩ := Option.map_eq_some_iff.mp hx
    refine ⟨_, rfl, ?_⟩
    walk_at "zs"
    exact ⟨_, _, rfl⟩
  · rintro e ⟨t, c, rfl⟩
    walk_at "zs"
    exact k _ ⟨ns, 0, 0, t, rfl, by decide⟩
end L84
/-! P3: k84: the scanner's small defs -/
namespace L84
open PySem PySem.Spec PyProof.Rows L2 Z
def S (l : List Nat) : Str := ⟨l.toArray⟩
theorem S_len (l : List Nat) : (S l).length = l.length := by simp [S, Str.length]
theorem S_app (a b : List Nat) : S a ++ S b = S (a ++ b) := by
  show Str.append (S a) (S b) = _
  simp [Str.append, S]
theorem S_inj {a b : List Nat} : S a = S b ↔ a = b := by simp [S]
theorem S_of (x : Str) : S x.cps.toList = x := by simp [S]
theorem S_cps (l : List Nat) : (S l).cps.toList = l := by simp [S]
theorem sIx0 {n : Nat} {d k : Nat} : HT.sIx n d (some ((k : Nat) : Int)) = min k n := HT.sIx_nat n d k
theorem cut_S (l : List Nat) (i j : Nat) : cutS (S l) (some (i : Int)) (some (j : Int)) = S ((l.drop i).take (j - i)) := by
  unfold cutS
  rw [sIx0, sIx0, S_len, S_cps]
  unfold S
  congr 2
  by_cases h : i ≤ l.length
  · rw [Nat.min_eq_left h]
    by_cases h2 : j ≤ l.length
    · rw [Nat.min_eq_left h2]
    · rw [Nat.min_eq_right (by omega), List.take_of_length_le (by simp), List.take_of_length_le (by simp; omega)]
  · have e : min i l.length = l.length := by omega
    rw [e, List.drop_length, List.drop_eq_nil_of_le (by omega)]
    simp
theorem cut_S0 (l : List Nat) (j : Nat) : cutS (S l) none (some (j : Int)) = S (l.take j) := by
  unfold cutS
  rw [sIx0, S_len, S_cps, HT.sIx_none]
  unfold S
  congr 2
  by_cases h2 : j ≤ l.length
  · rw [Nat.min_eq_left h2]; simp
  · rw [Nat.min_eq_right (by omega), List.take_of_length_le (by simp), List.take_of_length_le (by omega)]; simp
theorem cut_S1 (l : List Nat) (i : Nat) : cutS (S l) (some (i : Int)) none = S (l.drop i) := by
  unfold cutS
  rw [sIx0, S_len, S_cps, HT.sIx_none]
  unfold S
  congr 2
  by_cases h2 : i ≤ l.length
  · rw [Nat.min_eq_left h2, List.take_of_length_le (by simp)]
  · rw [Nat.min_eq_right (by omega), List.drop_length, List.drop_eq_nil_of_le (by omega)]; simp
theorem slice_S {l : List Nat} {lo hi : Option Int} (h : lim l.length = true) : slice (.str (S l)) lo hi = some (.d (.str (cutS (S l) lo hi))) := by
  show (if lim (S l).length = true then _ else _) = _
  rw [S_len, if_pos h]
theorem slice_to {l : List Nat} {i : Int} {k : Nat} (h : lim l.length = true) (e : i = k) : slice (.str (S l)) none (some i) = some (.d (.str (S (l.take k)))) := by
  subst e
  rw [slice_S h, cut_S0]
theorem slice_from {l : List Nat} {i : Int} {k : Nat} (h : lim l.length = true) (e : i = k) : slice (.str (S l)) (some i) none = some (.d (.str (S (l.drop k)))) := by
  subst e
  rw [slice_S h, cut_S1]
theorem slice_at {l : List Nat} {i j : Int} {p q : Nat} (h : lim l.length = true) (e : i = p) (e2 : j = q) : slice (.str (S l)) (some i) (some j) = some (.d (.str (S ((l.drop p).take (q - p))))) := by
  subst e e2
  rw [slice_S h, cut_S]
theorem index_S {l : List Nat} {i : Int} {c : Nat} (hl : lim l.length = true) (h : 0 ≤ i) (h2 : l[i.toNat]? = some c) : index (.str (S l)) (.int i) = some (.str (S [c])) := by
  have q : i.toNat < l.length := (List.getElem?_eq_some_iff.mp h2).1
  show (if lim (S l).length = true then ((ixN (S l).cps.toList.length i).bind fun j => (S l).cps.toList[j]?).map _ else none) = _
  rw [S_len, if_pos hl, S_cps, ixN_nat h (by omega)]
  show (l[i.toNat]?).map _ = _
  rw [h2]
  rfl
theorem in_S {c : Nat} {x : Str} : inD (.str (S [c])) (.str x) = some (decide (c ∈ x.cps.toList)) := by
  show some (!(Builtin.Str.occurrences x ⟨#[c]⟩ 0 x.length 1).isEmpty) = _
  rw [PySem.StrLaws.found_one]
theorem eq_S {x y : Str} : cmpop .Eq (.str x) (.str y) = some (decide (x = y)) := rfl
/-- the word signs, digits, letters, hex digits, symbols -/
def WS : List Nat := (Str.ofString "ABCDEFGHIJKLMNOPQRSTUVWXYZabcdefghijklmnopqrstuvwxyz0123456789_").cps.toList
def isW (c : Nat) : Bool := decide (c ∈ WS)
theorem sign_at_ok {n p : Nat} {l : List Nat} {Q : O → Z.Env → Prop} (hl : lim l.length = true) (k : Q (.d (.str (S ((l.drop p).take 1)))) [none, none]) : Does T (n + 1) 4 [.d (.str (S l)), .d (.int (p : Nat))] Q := by
  refine dm_sign_at ?_
  walk_at "zs"
  refine ⟨_, _, rfl, slice_S hl, ?_⟩
  have e : cutS (S l) (some (p : Int)) (some ((p : Int) + 1)) = S ((l.drop p).take 1) := by
    have := cut_S l p (p + 1)
    rw [Nat.add_sub_cancel_left] at this
    exact this
  rw [e]
  exact k
def headIn (l : List Nat) (x : Str) : Bool := match l with
  | [] => false
  | c :: _ => decide (c ∈ x.cps.toList)
theorem one_of_ok {n : Nat} {l : List Nat} {x : Str} {Q : O → Z.Env → Prop} (k : Q (.d (.bool (headIn l x))) [none, none]) : Does T (n + 1) 3 [.d (.str (S (l.take 1))), .d (.str x)] Q := by
  refine dm_is_one_of ?_
  cases l with
  | nil =>
    walk_at "zs"
    exact k
  | cons c l =>
    walk_at "zs"
    have e := PySem.StrLaws.found_one x c
    show Q (.d (.bool (!(Builtin.Str.occurrences x ⟨#[c]⟩ 0 x.length 1).isEmpty))) _
    rw [e]
    exact k
/-- how many word signs stand there -/
def runL (l : List Nat) : Nat := (l.takeWhile isW).length
theorem runL_le (l : List Nat) : runL l ≤ l.length := (List.takeWhile_sublist _).length_le
theorem take_runL (l : List Nat) : l.take (runL l) = l.takeWhile isW := by
  unfold runL
  induction l with
  | nil => rfl
  | cons c l ih =>
    rw [List.takeWhile_cons]
    split
    · simp [ih]
    · simp
theorem run_turn : ∀ (l : List Nat) (j : Nat), j ≤ runL l → headIn (l.drop j) (Str.ofString "ABCDEFGHIJKLMNOPQRSTUVWXYZabcdefghijklmnopqrstuvwxyz0123456789_") = decide (j < runL l)
  | [], j, h => by simp [headIn, runL]
  | c :: l, 0, h => by
    show isW c = _
    unfold runL
    rw [List.takeWhile_cons]
    cases isW c <;> simp
  | c :: l, j + 1, h => by
    unfold runL at h ⊢
    rw [List.takeWhile_cons] at h ⊢
    cases q : isW c with
    | false => simp [q] at h
    | true =>
      simp only [q, if_true, List.length_cons] at h ⊢
      have := run_turn l j (by unfold runL; omega)
      rw [List.drop_succ_cons, this]
      unfold runL
      simp
theorem run_at_ok {n p : Nat} {l : List Nat} {Q : O → Z.Env → Prop} (hl : lim l.length = true) (k : Q (.d (.str (S ((l.drop p).takeWhile isW)))) [none, none]) : Does T (n + 2) 5 [.d (.str (S l)), .d (.int (p : Nat))] Q := by
  refine dm_run_at ?_
  walk_at "zs"
  have hle : runL (l.drop p) ≤ 16777216 := by
    have h1 := runL_le (l.drop p)
    have h2 := of_decide_eq_true hl
    simp at h1
    omega
  refine while_e (fun m e => ∃ j : Nat, j + m = runL (l.drop p) ∧ e = [some (.d (.str (S l))), some (.d (.int (p : Nat))), some (.d (.int ((p + j : Nat) : Int)))]) (m := runL (l.drop p)) (by unfold turnsMost; omega) ⟨0, by omega, rfl⟩ ?_
  rintro m e ⟨j, hj, rfl⟩
  walk_at "zs"
  refine sign_at_ok hl ?_
  walk_at "zs"
  refine one_of_ok ?_
  walk_at "zs"
  have e := run_turn (l.drop p) j (by omega)
  rw [List.drop_drop] at e
  rw [e]
  refine ifD (fun h => ?_) (fun h => ?_)
  · walk_at "zs"
    refine ⟨m - 1, by omega, j + 1, by omega, ?_⟩
    show [_, _, some (O.d (.int (((p + j : Nat) : Int) + 1)))] = _
    rw [show ((p + j : Nat) : Int) + 1 = ((p + (j + 1) : Nat) : Int) by omega]
  · have ej : j = runL (l.drop p) := by omega
    walk_at "zs"
    refine ⟨_, _, rfl, slice_S hl, ?_⟩
    rw [cut_S, ej, Nat.add_sub_cancel_left, take_runL]
    exact k
end L84
/-! P4: k84: numbers are read -/
namespace L84
open PySem PySem.Spec PyProof.Rows L2 Z
def digs (m : Nat) : List Nat := (Nat.toDigits 10 m).map Char.toNat
theorem str_digs (m : Nat) : Str.ofString (toString (m : Int)) = S (digs m) := by
  have h := PySem.W.KIN.signs_num m
  unfold digs
  rw [← h, S_of]
theorem digs_step {m : Nat} (h : 10 ≤ m) : digs m = digs (m / 10) ++ digs (m % 10) := by
  have t : Nat.toDigits 10 (m / 10) ++ Nat.toDigits 10 (m % 10) = Nat.toDigits 10 (10 * (m / 10) + m % 10) := Nat.toDigits_append_toDigits (by decide) (by omega) (Nat.mod_lt m (by decide))
  rw [Nat.div_add_mod] at t
  unfold digs
  rw [← t, List.map_append]
theorem digs_one {m : Nat} (h : m < 10) : digs m = [48 + m] := by
  unfold digs
  rw [Nat.toDigits_of_lt_base h]
  have : ∀ d, d < 10 → [Nat.digitChar d].map Char.toNat = [48 + d] := by decide
  exact this m h
theorem digs_isD : ∀ (m : Nat) (c : Nat), c ∈ digs m → 48 ≤ c ∧ c ≤ 57 := by
  intro m
  induction m using Nat.strongRecOn with
  | _ m ih =>
    intro c hc
    by_cases h : m < 10
    · rw [digs_one h] at hc
      simp at hc
      omega
    · rw [digs_step (by omega), List.mem_append] at hc
      rcases hc with hc | hc
      · exact ih (m / 10) (by omega) c hc
      · exact ih (m % 10) (by omega) c hc
theorem digs_head : ∀ (m : Nat), 1 ≤ m → ∃ c l, digs m = c :: l ∧ c ≠ 48 := by
  intro m
  induction m using Nat.strongRecOn with
  | _ m ih =>
    intro h1
    by_cases h : m < 10
    · exact ⟨48 + m, [], digs_one h, by omega⟩
    · obtain ⟨c, l, e, hc⟩ := ih (m / 10) (by omega) (by omega)
      exact ⟨c, l ++ digs (m % 10), by rw [digs_step (by omega), e]; rfl, hc⟩
theorem digs_len {m : Nat} (h : m < 10 ^ 10) : (digs m).length ≤ 10 := by
  have q := PySem.W.KT.len_num (n := (m : Int)) (by omega) (by omega)
  rw [str_digs, S_len] at q
  exact q
theorem digs_ne (m : Nat) : digs m ≠ [] := by
  by_cases h : m < 10
  · rw [digs_one h]; simp
  · obtain ⟨c, l, e, _⟩ := digs_head m (by omega)
    rw [e]; simp
theorem int_digs {m : Nat} (h : m < 10 ^ 10) : blt .int [.d (.str (S (digs m)))] = some (.d (.int m)) := by
  show (if (S (digs m)).length ≤ 640 then (intText? (S (digs m))).map _ else none) = _
  have l := digs_len h
  rw [S_len, if_pos (by omega), ← str_digs, PySem.W.KIN.num_reads (by omega) (by omega)]
  rfl
theorem dig_in : ∀ c, 48 ≤ c → c ≤ 57 → c ∈ (Str.ofString "0123456789").cps.toList := by
  intro c h1 h2
  have : ∀ d, d < 10 → 48 + d ∈ (Str.ofString "0123456789").cps.toList := by decide +kernel
  have := this (c - 48) (by omega)
  rw [Nat.add_sub_cancel' h1] at this
  exact this
theorem bools_rep : ∀ n : Nat, boolsOf (List.replicate n (.bool true)) = some (List.replicate n true)
  | 0 => rfl
  | n + 1 => by
    show (boolsOf (List.replicate n (.bool true))).map _ = _
    rw [bools_rep n]
    rfl
theorem all_rep (n : Nat) : blt .all [.d (.list (List.replicate n (.bool true)))] = some (.d (.bool true)) := by
  show (boolsOf (List.replicate n (.bool true))).map _ = _
  rw [bools_rep]
  have : (List.replicate n true).all id = true := by induction n with
    | zero => rfl
    | succ n ih => simp [List.replicate_succ]
  show some (O.d (.bool ((List.replicate n true).all id))) = _
  rw [this]
theorem len_S {l : List Nat} (h : lim l.length = true) : blt .len [.d (.str (S l))] = some (.d (.int (l.length : Nat))) := by
  rw [blt_len_str (by rw [S_len]; exact h), S_len]
theorem lim_le {n : Nat} (h : n ≤ 16777216) : lim n = true := decide_eq_true h
theorem decimal_ok {n m : Nat} {Q : O → Z.Env → Prop} (hm : m ≤ 4294967295) (k : Q (.d (.int (m : Nat))) [none]) : Does T (n + 1) 7 [.d (.str (S (digs m)))] Q := by
  have hl := digs_len (m := m) (by omega)
  have hlim : lim (digs m).length = true := lim_le (by omega)
  refine dm_decimal ?_
  walk_at "zs"
  refine ifD (fun h => absurd h (by show ¬ (10 : Int) < ((S (digs m)).length : Nat); rw [S_len]; omega)) (fun _ => ?_)
  walk_at "zs"
  refine ⟨?_, ?_⟩
  · show (Z.signs (S (digs m))).length ≤ _
    unfold Z.signs
    rw [S_cps, List.length_map]
    omega
  have hs : Z.signs (S (digs m)) = (digs m).map fun c => PyData.str (S [c]) := by
    unfold Z.signs
    rw [S_cps]
    rfl
  show Ev (turns _ _ _ _ (Z.signs (S (digs m))) []) _ _
  rw [hs]
  refine turns_e (fun j acc e => acc = List.replicate j (.bool true) ∧ ∃ o, e = [some (.d (.str (S (digs m)))), o]) (by simp; omega) ?_ ⟨rfl, none, rfl⟩ ?_
  · rintro j x acc e hx ⟨rfl, o, rfl⟩
    rw [List.getElem?_map] at hx
    obtain ⟨c, hc, rfl⟩ := Option.map_eq_some_iff.mp hx
    have hd := digs_isD m c (List.mem_of_getElem? hc)
    refine ⟨_, rfl, ?_⟩
    walk_at "zs"
    have e1 := PySem.StrLaws.found_one (Str.ofString "0123456789") c
    refine ⟨?_, _, rfl⟩
    show List.replicate j (.bool true) ++ [PyData.bool (!(Builtin.Str.occurrences (Str.ofString "0123456789") ⟨#[c]⟩ 0 (Str.ofString "0123456789").length 1).isEmpty)] = _
    rw [e1, decide_eq_true (dig_in c hd.1 hd.2), ← List.replicate_succ']
  · rintro ys e ⟨rfl, o, rfl⟩
    rw [List.length_map]
    walk_at "zs"
    refine ⟨_, _, rfl, all_rep _, ?_⟩
    walk_at "zs"
    have tail : ¬ ((4294967295 : Int) < (m : Nat)) := by omega
    refine ifD (fun h => ?_) (fun h => ?_)
    · have h10 : 10 ≤ m := by
        have h : (1 : Int) < ((S (digs m)).length : Nat) := h
        rw [S_len] at h
        by_cases q : m < 10
        · rw [digs_one q] at h
          simp at h
        · omega
      obtain ⟨c, l, e, hc⟩ := digs_head m (by omega)
      walk_at "zs"
      refine ⟨_, index_S (c := c) hlim (by decide) (by rw [e]; rfl), ?_⟩
      walk_at "zs"
      have ne : decide (S [c] = Str.ofString "0") = false := decide_eq_false fun z => by
        have z : S [c] = S [48] := z
        rw [S_inj] at z
        cases z
        exact hc rfl
      refine ifF ne ?_
      walk_at "zs"
      refine ⟨_, _, rfl, int_digs (by omega), ?_⟩
      walk_at "zs"
      refine ifF (decide_eq_false tail) ?_
      walk_at "zs"
      refine ⟨_, _, rfl, int_digs (by omega), ?_⟩
      exact k
    · walk_at "zs"
      refine ⟨_, _, rfl, int_digs (by omega), ?_⟩
      walk_at "zs"
      refine ifF (decide_eq_false tail) ?_
      walk_at "zs"
      refine ⟨_, _, rfl, int_digs (by omega), ?_⟩
      exact k
end L84
/-! P5: k84: hexadecimal numbers are read; number_at, symbol_at -/
namespace L84
open PySem PySem.Spec PyProof.Rows L2 Z
def isHex (c : Nat) : Prop := (48 ≤ c ∧ c ≤ 57) ∨ (65 ≤ c ∧ c ≤ 70) ∨ (97 ≤ c ∧ c ≤ 102)
def hv (c : Nat) : Nat := if c ≤ 57 then c - 48 else if c ≤ 70 then c - 55 else c - 87
def hval (l : List Nat) : Nat := l.foldl (fun a c => 16 * a + hv c) 0
abbrev HD : Str := Str.ofString "0123456789abcdef"
theorem hex_facts : ∀ c, c < 103 → ((48 ≤ c ∧ c ≤ 57) ∨ (65 ≤ c ∧ c ≤ 70) ∨ (97 ≤ c ∧ c ≤ 102)) → lo1 c ∈ HD.cps.toList ∧ Builtin.Str.occurrences HD ⟨#[lo1 c]⟩ 0 HD.length 1 = [hv c] := by decide +kernel
theorem hex_lt {c : Nat} (h : isHex c) : c < 103 := by unfold isHex at h; omega
theorem hex_in {c : Nat} (h : isHex c) : Builtin.Str.occurrences HD ⟨#[lo1 c]⟩ 0 HD.length 1 = [hv c] := (hex_facts c (hex_lt h) h).2
theorem hex_index {c : Nat} (h : isHex c) : mthL .sindex (.str HD) [.d (.str (S [lo1 c]))] = some (.d (.int (hv c : Nat))) := by
  show (match Builtin.Str.occurrences HD ⟨#[lo1 c]⟩ 0 HD.length 1 with | i :: _ => some (O.d (.int (i : Nat))) | [] => none) = _
  rw [hex_in h]
theorem lower_hex {l : List Nat} (h : ∀ c ∈ l, isHex c) : Txt.lower (S l) = S (l.map lo1) := by
  rw [lower_ascii (x := S l) fun c hc => by
    rw [S_cps] at hc
    have := hex_lt (h c hc)
    omega]
  simp [S]
theorem signs_S (l : List Nat) : Z.signs (S l) = l.map fun c => PyData.str (S [c]) := by
  unfold Z.signs
  rw [S_cps]
  rfl
theorem hexadecimal_ok {n : Nat} {l : List Nat} {Q : O → Z.Env → Prop} (h1 : 1 ≤ l.length) (h8 : l.length ≤ 8) (hh : ∀ c ∈ l, isHex c) (k : Q (.d (.int (hval l : Nat))) [none]) : Does T (n + 1) 6 [.d (.str (S l))] Q := by
  have hlim : lim l.length = true := lim_le (by omega)
  refine dm_hexadecimal ?_
  walk_at "zs"
  refine ifF (decide_eq_false (by rw [S_len]; omega)) ?_
  walk_at "zs"
  refine ifF (decide_eq_false (by rw [S_len]; omega)) ?_
  walk_at "zs"
  refine ⟨_, _, rfl, (by
    show (if (S l).length ≤ 5592405 then some (O.d (.str (Txt.lower (S l)))) else none) = _
    rw [S_len, if_pos (by omega), lower_hex hh]), ?_⟩
  walk_at "zs"
  show Ev (walkL _ _ (Z.signs (S (l.map lo1)))) _ _
  rw [signs_S, List.map_map]
  refine walk_e (fun j e => ∃ o, e = [some (.d (.str (S l))), some (.d (.int (hval (l.take j) : Nat))), o]) ⟨none, rfl⟩ ?_ ?_
  · rintro j x e hx ⟨o, rfl⟩
    rw [List.getElem?_map] at hx
    obtain ⟨c, hc, rfl⟩ := Option.map_eq_some_iff.mp hx
    have hd := hh c (List.mem_of_getElem? hc)
    refine ⟨_, rfl, ?_⟩
    walk_at "zs"
    refine ifF (by
      show (!(!(Builtin.Str.occurrences HD ⟨#[lo1 c]⟩ 0 HD.length 1).isEmpty)) = false
      rw [hex_in hd]
      rfl) ?_
    walk_at "zs"
    refine ⟨_, _, rfl, hex_index hd, ?_⟩
    walk_at "zs"
    refine ⟨some (.d (.str (S [lo1 c]))), ?_⟩
    have e : hval (l.take (j + 1)) = 16 * hval (l.take j) + hv c := by
      have hj : j < l.length := (List.getElem?_eq_some_iff.mp hc).1
      have e2 : l.take (j + 1) = l.take j ++ [c] := by
        rw [List.take_succ, hc]
        rfl
      unfold hval
      rw [e2, List.foldl_append]
      rfl
    rw [e]
    rfl
  · rintro e ⟨o, rfl⟩
    rw [List.length_map, List.take_length]
    walk_at "zs"
    exact k
/-- the text of a number without its sign -/
inductive Body : List Nat → Nat → Prop where
  | dec {m : Nat} (h : m ≤ 4294967295) : Body (digs m) m
  | hex {l : List Nat} (h1 : 1 ≤ l.length) (h8 : l.length ≤ 8) (hh : ∀ c ∈ l, isHex c) : Body (48 :: 120 :: l) (hval l)
theorem W_fact : ∀ c, c < 123 → ((48 ≤ c ∧ c ≤ 57) ∨ (65 ≤ c ∧ c ≤ 90) ∨ (97 ≤ c ∧ c ≤ 122) ∨ c = 95) → isW c = true := by decide +kernel
theorem W_of {c : Nat} (h : (48 ≤ c ∧ c ≤ 57) ∨ (65 ≤ c ∧ c ≤ 90) ∨ (97 ≤ c ∧ c ≤ 122) ∨ c = 95) : isW c = true := W_fact c (by omega) h
theorem Body.allW {l : List Nat} {m : Nat} (b : Body l m) : ∀ c ∈ l, isW c = true := by
  cases b with
  | dec h => exact fun c hc => W_of (.inl (digs_isD m c hc))
  | hex h1 h8 hh =>
    intro c hc
    simp only [List.mem_cons] at hc
    rcases hc with rfl | rfl | hc
    · exact W_of (by omega)
    · exact W_of (by omega)
    · have := hh c hc
      unfold isHex at this
      exact W_of (by omega)
theorem Body.len {l : List Nat} {m : Nat} (b : Body l m) : 1 ≤ l.length ∧ l.length ≤ 10 := by
  cases b with
  | dec h => exact ⟨List.length_pos_iff.mpr (digs_ne m), digs_len (by omega)⟩
  | hex h1 h8 hh => simp; omega
theorem Body.dig {l : List Nat} {m : Nat} (b : Body l m) : ∃ c r, l = c :: r ∧ 48 ≤ c ∧ c ≤ 57 := by
  cases b with
  | dec h =>
    cases q : digs m with
    | nil => exact (digs_ne m q).elim
    | cons c r => exact ⟨c, r, rfl, digs_isD m c (by rw [q]; exact List.mem_cons_self ..)⟩
  | hex h1 h8 hh => exact ⟨48, _, rfl, by omega, by omega⟩
/-- what follows does not go on -/
def Stops (r : List Nat) : Prop := ∀ c, r[0]? = some c → isW c = false
theorem take_run {b r : List Nat} (h : ∀ c ∈ b, isW c = true) (hr : Stops r) : (b ++ r).takeWhile isW = b := by
  rw [List.takeWhile_append_of_pos h]
  cases r with
  | nil => simp
  | cons c r => rw [List.takeWhile_cons, hr c rfl]; simp
theorem headIn_dig {c : Nat} {l : List Nat} (h : 48 ≤ c ∧ c ≤ 57) : headIn (c :: l) (Str.ofString "0123456789") = true := decide_eq_true (dig_in c h.1 h.2)
theorem keep2 (e : Z.Env) : keepIo [false, false] e = [none, none] := by
  rcases e with _ | ⟨a, _ | ⟨b, e⟩⟩ <;> simp [keepIo]
theorem number_tail {n p q : Nat} {l b r : List Nat} {m : Nat} {ng : Bool} {QF : Fl → Z.Env → Prop} (hl : lim l.length = true) (hd : l.drop q = b ++ r) (hq : q = p + if ng = true then 1 else 0) (hb : Body b m) (hr : Stops r)
    (k : ∀ e, QF (.rt (.d (.tuple [.int (if ng = true then -(m : Int) else m), .int (((if ng = true then 1 else 0) + b.length : Nat) : Int)]))) e) :
    Ev (evSs (fun j => ((T[j]?).map CD.io).getD []) (Z.run T (n + 2)) (d_number_at.body.drop 2)) [some (.d (.str (S l))), some (.d (.int (p : Nat))), some (.d (.int (q : Nat))), none, none] QF := by
  have hbl := hb.len
  have hblim : lim b.length = true := lim_le (by omega)
  walk_at "zs"
  refine run_at_ok hl ?_
  rw [hd, take_run hb.allW hr]
  have fin : Ev (evSs (fun j => ((T[j]?).map CD.io).getD []) (Z.run T (n + 2)) (d_number_at.body.drop 5)) [some (.d (.str (S l))), some (.d (.int (p : Nat))), some (.d (.int (q : Nat))), some (.d (.str (S b))), some (.d (.int (m : Nat)))] QF := by
    walk_at "zs"
    cases ng with
    | true =>
      refine ifT (decide_eq_true (by simp at hq; omega)) ?_
      walk_at "zs"
      have e2 : (q : Int) - p + ((S b).length : Nat) = (((if true = true then 1 else 0) + b.length : Nat) : Int) := by
        rw [S_len]; simp at hq ⊢; omega
      rw [e2]
      exact k _
    | false =>
      refine ifF (decide_eq_false (by simp at hq; omega)) ?_
      walk_at "zs"
      have e2 : (q : Int) - p + ((S b).length : Nat) = (((if false = true then 1 else 0) + b.length : Nat) : Int) := by
        rw [S_len]; simp at hq ⊢; omega
      rw [e2]
      exact k _
  walk_at "zs"
  refine ⟨_, _, rfl, slice_to hblim (k := 2) rfl, ?_⟩
  walk_at "zs"
  cases hb with
  | hex h1 h8 hh =>
    refine ifT rfl ?_
    walk_at "zs"
    refine ⟨_, _, rfl, slice_from hblim (k := 2) rfl, ?_⟩
    walk_at "zs"
    refine hexadecimal_ok h1 h8 hh ?_
    walk_at "zto 3"
    exact fin
  | dec h =>
    obtain ⟨c, rest, e, c1, c2⟩ := (Body.dec h).dig
    have ne : decide (S ((digs m).take 2) = Str.ofString "0x") = false := decide_eq_false fun z => by
      have z : S ((digs m).take 2) = S [48, 120] := z
      rw [S_inj] at z
      have h2 : 120 ∈ (digs m).take 2 := by rw [z]; simp
      have := digs_isD m 120 (List.mem_of_mem_take h2)
      omega
    refine ifF ne ?_
    walk_at "zs"
    refine ⟨_, _, rfl, slice_to hblim (k := 1) rfl, ?_⟩
    walk_at "zs"
    refine one_of_ok ?_
    have e3 : headIn (digs m) (Str.ofString "0123456789") = true := by
      rw [e]
      exact headIn_dig ⟨c1, c2⟩
    rw [show headIn (digs m) _ = true from e3]
    walk_at "zs"
    refine decimal_ok h ?_
    walk_at "zto 3"
    exact fin
theorem number_at_ok {n p : Nat} {l b r : List Nat} {m : Nat} {ng : Bool} {Q : O → Z.Env → Prop} (hl : lim l.length = true) (hd : l.drop p = (if ng = true then [45] else []) ++ b ++ r) (hb : Body b m) (hr : Stops r)
    (k : Q (.d (.tuple [.int (if ng = true then -(m : Int) else m), .int (((if ng = true then 1 else 0) + b.length : Nat) : Int)])) [none, none]) : Does T (n + 3) 8 [.d (.str (S l)), .d (.int (p : Nat))] Q := by
  refine dm_number_at ?_
  walk_at "zs"
  refine sign_at_ok hl ?_
  walk_at "zs"
  rw [hd]
  have k2 : ∀ e : Z.Env, Q (.d (.tuple [.int (if ng = true then -(m : Int) else m), .int (((if ng = true then 1 else 0) + b.length : Nat) : Int)])) (keepIo d_number_at.io e) := fun e => by
    have : keepIo d_number_at.io e = [none, none] := keep2 e
    rw [this]
    exact k
  cases ng with
  | true =>
    refine ifT rfl ?_
    walk_at "zto 6"
    have e2 : ((p : Nat) : Int) + 1 = ((p + 1 : Nat) : Int) := by omega
    rw [e2]
    refine number_tail (q := p + 1) (ng := true) hl ?_ rfl hb hr k2
    have := congrArg (List.drop 1) hd
    rw [List.drop_drop] at this
    exact this
  | false =>
    obtain ⟨c, rest, e, c1, c2⟩ := hb.dig
    refine ifF (decide_eq_false fun z => ?_) ?_
    · rw [e] at z
      have z : S [c] = S [45] := z
      rw [S_inj] at z
      cases z
      omega
    walk_at "zto 6"
    exact number_tail (q := p) (ng := false) hl hd rfl hb hr k2
theorem symbol_at_ok {n p : Nat} {l b r : List Nat} {Q : O → Z.Env → Prop} (hl : lim l.length = true) (hd : l.drop p = b ++ r)
    (hb : (∃ c, b = [c] ∧ c ∈ (Str.ofString "{}[];:,").cps.toList) ∨ b = [46, 46] ∨ (b = [95] ∧ Stops r)) (k : Q (.d (.str (S b))) [none, none]) : Does T (n + 3) 9 [.d (.str (S l)), .d (.int (p : Nat))] Q := by
  refine dm_symbol_at ?_
  walk_at "zs"
  refine sign_at_ok hl ?_
  walk_at "zs"
  refine one_of_ok ?_
  walk_at "zs"
  rw [hd]
  rcases hb with ⟨c, rfl, hc⟩ | rfl | ⟨rfl, hr⟩
  · refine ifT (decide_eq_true hc) ?_
    walk_at "zs"
    exact k
  · refine ifF rfl ?_
    walk_at "zs"
    refine ⟨_, _, rfl, slice_at hl (p := p) (q := p + 2) rfl (by omega), ?_⟩
    rw [hd, Nat.add_sub_cancel_left]
    walk_at "zs"
    exact k
  · refine ifF rfl ?_
    walk_at "zs"
    refine ⟨_, _, rfl, slice_at hl (p := p) (q := p + 2) rfl (by omega), ?_⟩
    rw [hd, Nat.add_sub_cancel_left]
    walk_at "zs"
    have ne : decide (S (List.take 2 ([95] ++ r)) = Str.ofString "..") = false := decide_eq_false fun z => by
      have z : S (95 :: List.take 1 r) = S [46, 46] := z
      rw [S_inj] at z
      cases z
    refine ifF ne ?_
    walk_at "zs"
    refine run_at_ok hl ?_
    rw [hd, take_run (by intro c hc; simp at hc; subst hc; exact W_of (by omega)) hr]
    walk_at "zs"
    exact k
end L84
/-! P6: k84: the tokens of a text that was laid token by token -/
namespace L84
open PySem PySem.Spec PyProof.Rows L2 Z
abbrev LET : Str := Str.ofString "ABCDEFGHIJKLMNOPQRSTUVWXYZabcdefghijklmnopqrstuvwxyz"
abbrev DIG : Str := Str.ofString "0123456789"
abbrev BLK : Str := Str.ofString " \n\t"
theorem in_T {c : Nat} {x : Str} (h : c ∈ x.cps.toList) : (!(Builtin.Str.occurrences x (S [c]) 0 x.length 1).isEmpty) = true := by
  have := PySem.StrLaws.found_one x c
  rw [decide_eq_true h] at this
  exact this
theorem in_F {c : Nat} {x : Str} (h : ¬ c ∈ x.cps.toList) : (!(Builtin.Str.occurrences x (S [c]) 0 x.length 1).isEmpty) = false := by
  have := PySem.StrLaws.found_one x c
  rw [decide_eq_false h] at this
  exact this
inductive Good : List Nat → Str → PyData → List Nat → Prop where
  | word {c : Nat} {ws r : List Nat} (hc : c ∈ LET.cps.toList) (hw : ∀ x ∈ ws, isW x = true) (hl : ws.length ≤ 19) (hr : Stops r) : Good (c :: ws) "word" (.str (S (c :: ws))) r
  | num {ng : Bool} {b r : List Nat} {m : Nat} (hb : Body b m) (hr : Stops r) : Good ((if ng = true then [45] else []) ++ b) "number" (.int (if ng = true then -(m : Int) else m)) r
  | sym {b r : List Nat} (hb : (∃ c, b = [c] ∧ c ∈ (Str.ofString "{}[];:,").cps.toList) ∨ b = [46, 46] ∨ (b = [95] ∧ Stops r)) : Good b "symbol" (.str (S b)) r
inductive Lay : List Nat → Nat → List PyData → Prop where
  | nil {p : Nat} : Lay [] p []
  | blank {c p : Nat} {r : List Nat} {ts : List PyData} (hc : c ∈ BLK.cps.toList) (h : Lay r (p + 1) ts) : Lay (c :: r) p ts
  | tok {t r : List Nat} {k : Str} {v : PyData} {p : Nat} {ts : List PyData} (g : Good t k v r) (h : Lay r (p + t.length) ts) : Lay (t ++ r) p (.tuple [.str k, v, .int (p : Nat)] :: ts)
theorem LET_W : ∀ c ∈ LET.cps.toList, isW c = true := by decide +kernel
theorem BLK_f : ∀ c ∈ BLK.cps.toList, ¬ c ∈ LET.cps.toList ∧ ¬ c ∈ DIG.cps.toList ∧ c ≠ 45 := by decide +kernel
theorem DIG_f : ∀ c, c < 58 → 48 ≤ c → ¬ c ∈ LET.cps.toList := by decide +kernel
theorem MIN_f : ¬ 45 ∈ LET.cps.toList ∧ ¬ 45 ∈ DIG.cps.toList := by decide +kernel
theorem SYM_f : ∀ c ∈ (Str.ofString "{}[];:,._").cps.toList, ¬ c ∈ LET.cps.toList ∧ ¬ c ∈ DIG.cps.toList ∧ c ≠ 45 ∧ ¬ c ∈ BLK.cps.toList := by decide +kernel
theorem SYM_i : ∀ c ∈ (Str.ofString "{}[];:,").cps.toList, c ∈ (Str.ofString "{}[];:,._").cps.toList := by decide +kernel
theorem SYM_j : 46 ∈ (Str.ofString "{}[];:,._").cps.toList ∧ 95 ∈ (Str.ofString "{}[];:,._").cps.toList := by decide +kernel
theorem sym_head {b r : List Nat} (hb : (∃ c, b = [c] ∧ c ∈ (Str.ofString "{}[];:,").cps.toList) ∨ b = [46, 46] ∨ (b = [95] ∧ Stops r)) : ∃ c rest, b = c :: rest ∧ c ∈ (Str.ofString "{}[];:,._").cps.toList := by
  rcases hb with ⟨c, rfl, hc⟩ | rfl | ⟨rfl, _⟩
  · exact ⟨c, [], rfl, SYM_i c hc⟩
  · exact ⟨46, [46], rfl, SYM_j.1⟩
  · exact ⟨95, [], rfl, SYM_j.2⟩
theorem Good.len {t r : List Nat} {k : Str} {v : PyData} (g : Good t k v r) : 1 ≤ t.length := by
  cases g with
  | word => simp
  | num hb hr => have := hb.len; simp; omega
  | sym hb => obtain ⟨c, rest, rfl, _⟩ := sym_head hb; simp
theorem ne_min {c : Nat} (h : c ≠ 45) : decide (S [c] = Str.ofString "-") = false := decide_eq_false fun z => by
  have z : S [c] = S [45] := z
  rw [S_inj] at z
  cases z
  exact h rfl
def TI (l : List Nat) (ts : List PyData) (m : Nat) (e : Z.Env) : Prop := ∃ (p : Nat) (don ts' : List PyData) (rest : List Nat) (o3 o4 o5 o6 o7 : Option O), l.drop p = rest ∧ Lay rest p ts' ∧ don ++ ts' = ts ∧ rest.length = m ∧ p + m = l.length ∧
  e = [some (.d (.str (S l))), some (.lst don), some (.d (.int (p : Nat))), o3, o4, o5, o6, o7]
theorem tokens_ok {n : Nat} {l : List Nat} {ts : List PyData} {Q : O → Z.Env → Prop} (hl : lim l.length = true) (ht : ts.length < 1000) (h : Lay l 0 ts) (k : Q (.lst ts) [none]) : Does T (n + 4) 10 [.d (.str (S l))] Q := by
  refine dm_tokens_of ?_
  walk_at "zs"
  refine while_e (TI l ts) (m := l.length) (by have := of_decide_eq_true hl; unfold turnsMost; omega) ⟨0, [], ts, l, none, none, none, none, none, rfl, h, rfl, rfl, by omega, rfl⟩ ?_
  rintro m e ⟨p, don, ts', rest, o3, o4, o5, o6, o7, hd, hlay, hts, hm, hp, rfl⟩
  walk_at "zs"
  have next : ∀ (s : Nat) (don2 ts2 : List PyData) (r : List Nat) (a3 a4 a5 a6 a7 : Option O), l.drop (p + s) = r → Lay r (p + s) ts2 → don2 ++ ts2 = ts → r.length + s = m → 1 ≤ s →
      ∃ m', m' < m ∧ TI l ts m' [some (.d (.str (S l))), some (.lst don2), some (.d (.int ((p : Int) + (s : Nat)))), a3, a4, a5, a6, a7] := fun s don2 ts2 r a3 a4 a5 a6 a7 h1 h2 h3 h4 h5 =>
    ⟨r.length, by omega, p + s, don2, ts2, r, a3, a4, a5, a6, a7, h1, h2, h3, rfl, by omega, by rw [Int.natCast_add]⟩
  cases hlay with
  | nil =>
    refine ifF (decide_eq_false (by rw [S_len]; simp at hm; omega)) ?_
    walk_at "zs"
    rw [List.append_nil] at hts
    subst hts
    exact k
  | blank hc hlay =>
    rename_i c r
    have hlt : p < l.length := by simp at hm; omega
    have hget : l[((p : Nat) : Int).toNat]? = some c := by
      have : (l.drop p)[0]? = some c := by rw [hd]; rfl
      rw [List.getElem?_drop] at this
      simpa using this
    refine ifT (decide_eq_true (by rw [S_len]; omega)) ?_
    walk_at "zs"
    refine ⟨_, index_S hl (by omega) hget, ?_⟩
    obtain ⟨b1, b2, b3⟩ := BLK_f c hc
    walk_at "zs"
    refine ifF (in_F b1) ?_
    walk_at "zs"
    refine ifF (in_F b2) ?_
    walk_at "zs"
    refine ifF (ne_min b3) ?_
    walk_at "zs"
    refine ifF (by
      show (!(!(Builtin.Str.occurrences BLK (S [c]) 0 BLK.length 1).isEmpty)) = false
      rw [in_T hc]; rfl) ?_
    walk_at "zs"
    exact next 1 don ts' r _ _ _ _ _ (by have := congrArg (List.drop 1) hd; rw [List.drop_drop] at this; exact this) hlay hts (by simpa using hm) (by omega)
  | tok g hlay =>
    rename_i t r kd v ts2
    have g1 := g.len
    have hm2 : t.length + r.length = m := by simpa using hm
    have hlt : p < l.length := by omega
    have hr : l.drop (p + t.length) = r := by
      have := congrArg (List.drop t.length) hd
      rw [List.drop_drop, List.drop_left] at this
      exact this
    have hdl : don.length < 1000 := by
      have := congrArg List.length hts
      simp at this
      omega
    have hts2 : (don ++ [.tuple [.str kd, v, .int (p : Nat)]]) ++ ts2 = ts := by rw [← hts]; simp
    have hget : ∀ {c : Nat}, (t ++ r)[0]? = some c → l[((p : Nat) : Int).toNat]? = some c := fun {c} h => by
      have : (l.drop p)[0]? = some c := by rw [hd]; exact h
      rw [List.getElem?_drop] at this
      simpa using this
    refine ifT (decide_eq_true (by rw [S_len]; omega)) ?_
    cases g with
    | word hc hw hl2 hr2 =>
      rename_i c ws
      walk_at "zs"
      refine ⟨_, index_S hl (by omega) (hget rfl), ?_⟩
      walk_at "zs"
      refine ifT (in_T hc) ?_
      walk_at "zs"
      refine run_at_ok hl ?_
      rw [hd, take_run (by
        intro x hx
        rcases List.mem_cons.mp hx with rfl | hx
        · exact LET_W _ hc
        · exact hw x hx) hr2]
      have wl : lim (c :: ws).length = true := lim_le (by simp; omega)
      walk_at "zs"
      refine ifF (decide_eq_false (by rw [S_len]; simp; omega)) ?_
      walk_at "zs"
      exact next (c :: ws).length _ ts2 r _ _ _ _ _ hr hlay hts2 (by omega) g1
    | num hb hr2 =>
      rename_i ng b mm
      have hb1 := hb.len
      walk_at "zs"
      obtain ⟨c, rest, e, c1, c2⟩ := hb.dig
      cases ng with
      | true =>
        refine ⟨_, index_S hl (by omega) (hget (c := 45) rfl), ?_⟩
        walk_at "zs"
        refine ifF (in_F MIN_f.1) ?_
        walk_at "zs"
        refine ifF (in_F MIN_f.2) ?_
        walk_at "zs"
        refine number_at_ok (ng := true) hl hd hb hr2 ?_
        walk_at "zs"
        have e5 : (if true = true then 1 else 0) + b.length = ((if true = true then [45] else []) ++ b).length := by simp; try omega
        rw [e5]
        exact next ((if true = true then [45] else []) ++ b).length _ ts2 r _ _ _ _ _ hr hlay hts2 (by omega) g1
      | false =>
        refine ⟨_, index_S hl (by omega) (hget (c := c) (by rw [e]; rfl)), ?_⟩
        walk_at "zs"
        refine ifF (in_F (DIG_f c (by omega) c1)) ?_
        walk_at "zs"
        refine ifT (in_T (dig_in c c1 c2)) ?_
        walk_at "zs"
        refine number_at_ok (ng := false) hl hd hb hr2 ?_
        walk_at "zs"
        have e5 : (if false = true then 1 else 0) + b.length = ((if false = true then [45] else []) ++ b).length := by simp; try omega
        rw [e5]
        exact next ((if false = true then [45] else []) ++ b).length _ ts2 r _ _ _ _ _ hr hlay hts2 (by omega) g1
    | sym hb =>
      obtain ⟨c, rest, e, hc⟩ := sym_head hb
      obtain ⟨s1, s2, s3, s4⟩ := SYM_f c hc
      walk_at "zs"
      refine ⟨_, index_S hl (by omega) (hget (c := c) (by rw [e]; rfl)), ?_⟩
      walk_at "zs"
      refine ifF (in_F s1) ?_
      walk_at "zs"
      refine ifF (in_F s2) ?_
      walk_at "zs"
      refine ifF (ne_min s3) ?_
      walk_at "zs"
      refine ifT (by
        show (!(!(Builtin.Str.occurrences BLK (S [c]) 0 BLK.length 1).isEmpty)) = true
        rw [in_F s4]; rfl) ?_
      walk_at "zs"
      refine symbol_at_ok hl hd hb ?_
      have tl : lim t.length = true := lim_le (by have := of_decide_eq_true hl; omega)
      walk_at "zs"
      exact next t.length _ ts2 r _ _ _ _ _ hr hlay hts2 (by omega) g1
end L84
/-! P7: k84: the generator of a number's text -/
namespace L84
open PySem PySem.Spec PyProof.Rows L2 Z
theorem hfold (l : List Nat) (a : Nat) : l.foldl (fun a c => 16 * a + hv c) a = a * 16 ^ l.length + l.foldl (fun a c => 16 * a + hv c) 0 := by
  induction l generalizing a with
  | nil => simp
  | cons c l ih =>
    rw [List.foldl_cons, List.foldl_cons, ih, ih (16 * 0 + hv c), List.length_cons, Nat.pow_succ, Nat.add_mul]
    have e : 16 * a * 16 ^ l.length = a * (16 ^ l.length * 16) := by rw [Nat.mul_comm 16 a, Nat.mul_assoc, Nat.mul_comm 16]
    rw [e, show 16 * 0 + hv c = hv c by omega]
    omega
theorem hval_cons (c : Nat) (l : List Nat) : hval (c :: l) = hv c * 16 ^ l.length + hval l := by
  unfold hval
  rw [List.foldl_cons, hfold, show 16 * 0 + hv c = hv c by omega]
/-- the sixteen hexadecimal digits -/
def Dig16 (x : Str) : Prop := ∀ k, k < 16 → ∃ c, x.cps.toList[k]? = some c ∧ isHex c ∧ hv c = k
theorem dig16_of {x : Str} (h : ∀ k, k < 16 → (match x.cps.toList[k]? with | some c => ((48 ≤ c ∧ c ≤ 57) ∨ (65 ≤ c ∧ c ≤ 70) ∨ (97 ≤ c ∧ c ≤ 102)) ∧ hv c = k | none => False)) : Dig16 x := fun k hk => by
  have := h k hk
  cases q : x.cps.toList[k]? with
  | none => rw [q] at this; exact this.elim
  | some c => rw [q] at this; exact ⟨c, rfl, this.1, this.2⟩
theorem lo16 : Dig16 (Str.ofString "0123456789abcdef") := by
  intro k hk
  have : ∀ k, k < 16 → ((Str.ofString "0123456789abcdef").cps.toList[k]?).any (fun c => decide (((48 ≤ c ∧ c ≤ 57) ∨ (65 ≤ c ∧ c ≤ 70) ∨ (97 ≤ c ∧ c ≤ 102)) ∧ hv c = k)) = true := by decide +kernel
  have := this k hk
  revert this
  cases (Str.ofString "0123456789abcdef").cps.toList[k]? with
  | none => intro h; simp at h
  | some c =>
    intro h
    have h2 := of_decide_eq_true (show decide (((48 ≤ c ∧ c ≤ 57) ∨ (65 ≤ c ∧ c ≤ 70) ∨ (97 ≤ c ∧ c ≤ 102)) ∧ hv c = k) = true from h)
    exact ⟨c, rfl, h2.1, h2.2⟩
theorem up16 : Dig16 (Str.ofString "0123456789ABCDEF") := by
  intro k hk
  have : ∀ k, k < 16 → ((Str.ofString "0123456789ABCDEF").cps.toList[k]?).any (fun c => decide (((48 ≤ c ∧ c ≤ 57) ∨ (65 ≤ c ∧ c ≤ 70) ∨ (97 ≤ c ∧ c ≤ 102)) ∧ hv c = k)) = true := by decide +kernel
  have := this k hk
  revert this
  cases (Str.ofString "0123456789ABCDEF").cps.toList[k]? with
  | none => intro h; simp at h
  | some c =>
    intro h
    have h2 := of_decide_eq_true (show decide (((48 ≤ c ∧ c ≤ 57) ∨ (65 ≤ c ∧ c ≤ 70) ∨ (97 ≤ c ∧ c ≤ 102)) ∧ hv c = k) = true from h)
    exact ⟨c, rfl, h2.1, h2.2⟩
theorem dig16_at {x : Str} (h : Dig16 x) (hl : x.length = 16) (s : Nat) : ∃ c, index (.str x) (.int (Builtin.bitAnd (s : Int) 15)) = some (.str (S [c])) ∧ isHex c ∧ hv c = s % 16 := by
  obtain ⟨c, h1, h2, h3⟩ := h (s % 16) (Nat.mod_lt _ (by decide))
  refine ⟨c, ?_, h2, h3⟩
  have e : Builtin.bitAnd (s : Int) 15 = ((s % 16 : Nat) : Int) := by
    rw [PyProof.Rows.bitAnd_m4]
    omega
  rw [e, ← S_of x]
  refine index_S (by rw [Array.length_toList]; show lim x.length = true; rw [hl]; rfl) (by omega) ?_
  rw [Int.toNat_natCast]
  exact h1
structure HexI (N j : Nat) (hs : List Nat) : Prop where
  hex : ∀ c ∈ hs, isHex c
  pos : 1 ≤ hs.length
  few : hs.length ≤ j + 1
  val : hval hs + 16 ^ hs.length * (N / 16 ^ hs.length) = N
  all : hs.length = j + 1 ∨ N / 16 ^ hs.length = 0
theorem HexI.one {N c : Nat} (h : isHex c) (e : hv c = N % 16) : HexI N 0 [c] := by
  refine ⟨fun d hd => by rw [List.mem_singleton] at hd; rw [hd]; exact h, Nat.le_refl _, Nat.le_refl _, ?_, .inl rfl⟩
  rw [hval_cons]
  show hv c * 16 ^ 0 + 0 + 16 ^ 1 * (N / 16 ^ 1) = N
  rw [e]
  omega
theorem HexI.step {N j c : Nat} {hs : List Nat} (I : HexI N j hs) (z : 0 < N / 16 ^ (j + 1)) (h : isHex c) (e : hv c = N / 16 ^ (j + 1) % 16) : HexI N (j + 1) (c :: hs) := by
  have hl : hs.length = j + 1 := by
    rcases I.all with q | q
    · exact q
    · have : N / 16 ^ (j + 1) ≤ N / 16 ^ hs.length := Nat.div_le_div_left (Nat.pow_le_pow_right (by decide) I.few) (Nat.pow_pos (by decide))
      omega
  refine ⟨fun d hd => ?_, by simp, by simp [hl], ?_, .inl (by simp [hl])⟩
  · rcases List.mem_cons.mp hd with rfl | hd
    · exact h
    · exact I.hex d hd
  · rw [hval_cons, List.length_cons, hl, e, show 16 ^ (j + 1 + 1) = 16 ^ (j + 1) * 16 from Nat.pow_succ 16 (j + 1), ← Nat.div_div_eq_div_mul]
    have v := I.val
    rw [hl] at v
    have dm := Nat.div_add_mod (N / 16 ^ (j + 1)) 16
    have : N / 16 ^ (j + 1) % 16 * 16 ^ (j + 1) + 16 ^ (j + 1) * 16 * (N / 16 ^ (j + 1) / 16) = 16 ^ (j + 1) * (N / 16 ^ (j + 1)) := by
      conv => rhs; rw [← dm]
      rw [Nat.mul_add, Nat.mul_comm (N / 16 ^ (j + 1) % 16), ← Nat.mul_assoc]
      omega
    omega
theorem HexI.skip {N j : Nat} {hs : List Nat} (I : HexI N j hs) (z : N / 16 ^ (j + 1) = 0) : HexI N (j + 1) hs := by
  refine ⟨I.hex, I.pos, by have := I.few; omega, I.val, .inr ?_⟩
  rcases I.all with q | q
  · rw [q]; exact z
  · exact q
theorem HexI.done {N : Nat} {hs : List Nat} (I : HexI N 7 hs) (h : N ≤ 4294967295) : hval hs = N := by
  have v := I.val
  have : N / 16 ^ hs.length = 0 := by
    rcases I.all with q | q
    · rw [q]
      exact Nat.div_eq_of_lt (by have : (16 : Nat) ^ (7 + 1) = 4294967296 := by decide
                                 omega)
    · exact q
  rw [this] at v
  simpa using v
theorem str_nat {N : Nat} (h : N ≤ 4294967295) : blt .str [.d (.int (N : Int))] = some (.d (.str (S (digs N)))) := by
  show (if ((N : Int)).natAbs.log2 < 1920 then some (O.d (.str (Str.ofString (toString (N : Int))))) else none) = _
  have : (N : Int).natAbs.log2 < 1920 := by
    have e : (N : Int).natAbs = N := rfl
    rw [e]
    by_cases z : N = 0
    · subst z; decide
    · exact (Nat.log2_lt z).mpr (Nat.lt_of_le_of_lt h (Nat.lt_of_lt_of_le (by decide : 4294967295 < 2 ^ 64) (Nat.pow_le_pow_right (by decide) (by decide))))
  rw [if_pos this, str_digs]

theorem numeral_fin {n N s : Nat} {o : O} {v : Int} {b : List Nat} {a2 a5 a6 : Option O} {QF : Fl → Z.Env → Prop} (ht : Tape o) (hb : Body b N) (hN : v.natAbs = N)
    (k : ∀ o' ng b m r, Tape o' → Body b m → v = (if ng = true then -((m : Nat) : Int) else m) → QF (.rt (.d (.str (S ((if ng = true then [45] else []) ++ b))))) (some o' :: r)) :
    Ev (evSs (fun j => ((T[j]?).map CD.io).getD []) (Z.run T (n + 1)) (d__law_numeral.body.drop 4)) [some o, some (.d (.int v)), a2, some (.d (.int (s : Nat))), some (.d (.str (S b))), a5, a6] QF := by
  have hbl := hb.len
  have minus : v ≤ 0 → QF (.rt (.d (.str (Str.ofString "-" ++ S b)))) [some o, some (.d (.int v)), a2, some (.d (.int (s : Nat))), some (.d (.str (S b))), a5, a6] := fun h => by
    have e : Str.ofString "-" ++ S b = S ([45] ++ b) := S_app [45] b
    rw [e]
    exact k o true b N _ ht hb (by simp; omega)
  have lm : lim ((Str.ofString "-").length + (S b).length) = true := by
    rw [S_len]
    exact lim_le (by have : (Str.ofString "-").length = 1 := rfl
                     omega)
  walk_at "zs"
  refine ifD (fun h => ?_) (fun h => ?_)
  · walk_at "zs"
    exact minus (by omega)
  · walk_at "zs"
    refine ifD (fun h2 => ?_) (fun h2 => ?_)
    · walk_at "zs"
      refine ifD (fun h3 => ?_) (fun h3 => ?_)
      · walk_at "zs"
        exact minus (by omega)
      · walk_at "zs"
        exact k o false b N _ ht hb (by simp; omega)
    · walk_at "zs"
      exact k o false b N _ ht hb (by simp; omega)
end L84
/-! P8: k84: the generator of a number's text, whole -/
namespace L84
open PySem PySem.Spec PyProof.Rows L2 Z
theorem numeral_mid {n N : Nat} {o : O} {v : Int} {QF : Fl → Z.Env → Prop} (ht : Tape o) (hN : v.natAbs = N) (hN2 : N ≤ 4294967295)
    (k : ∀ o' ng b m r, Tape o' → Body b m → v = (if ng = true then -((m : Nat) : Int) else m) → QF (.rt (.d (.str (S ((if ng = true then [45] else []) ++ b))))) (some o' :: r)) :
    Ev (evSs (fun j => ((T[j]?).map CD.io).getD []) (Z.run T (n + 1)) (d__law_numeral.body.drop 1)) [some o, some (.d (.int v)), some (.d (.int (N : Nat))), none, none, none, none] QF := by
  walk_at "zs"
  refine draw_ok ht (by decide) (by decide) fun sh o1 ht1 s0 s4 => ?_
  obtain ⟨s, rfl⟩ := Int.eq_ofNat_of_zero_le s0
  walk_at "zs"
  refine ⟨_, _, rfl, str_nat hN2, ?_⟩
  walk_at "zs"
  refine ifD (fun hs => ?_) (fun hs => ?_)
  · walk_at "zs"
    refine draw_ok ht1 (by decide) (by decide) fun d o2 ht2 d0 d2 => ?_
    have pick : ∃ X : Str, Dig16 X ∧ X.length = 16 ∧ index (.list [.str (Str.ofString "0123456789abcdef"), .str (Str.ofString "0123456789ABCDEF")]) (.int d) = some (.str X) := by
      rcases (show d = 0 ∨ d = 1 by omega) with rfl | rfl
      · exact ⟨_, lo16, rfl, rfl⟩
      · exact ⟨_, up16, rfl, rfl⟩
    obtain ⟨X, hX, hX2, hX3⟩ := pick
    obtain ⟨c, i1, i2, i3⟩ := dig16_at hX hX2 N
    walk_at "zs"
    refine walk_e (fun j e => ∃ (hs : List Nat) (a6 : Option O), HexI N j hs ∧ e = [some o2, some (.d (.int v)), some (.d (.int ((N / 16 ^ j : Nat) : Int))), some (.d (.int (s : Nat))), some (.d (.str (S hs))), some (.d (.str X)), a6]) ⟨[c], none, HexI.one i2 i3, by simp⟩ ?_ ?_
    · rintro j x e hx ⟨hs, a6, I, rfl⟩
      refine ⟨_, rfl, ?_⟩
      have hj : j < 7 := (List.getElem?_eq_some_iff.mp hx).1
      have e : ((N / 16 ^ j : Nat) : Int) / 2 ^ (4 : Int).toNat = ((N / 16 ^ (j + 1) : Nat) : Int) := by
        rw [Nat.pow_succ 16 j, ← Nat.div_div_eq_div_mul]
        show ((N / 16 ^ j : Nat) : Int) / 16 = _
        omega
      walk_at "zs"
      rw [e]
      refine ifD (fun z => ?_) (fun z => ?_)
      · obtain ⟨c2, q1, q2, q3⟩ := dig16_at hX hX2 (N / 16 ^ (j + 1))
        have lm : lim ((S [c2]).length + (S hs).length) = true := by
          rw [S_len, S_len]
          exact lim_le (by have := I.few; simp; omega)
        walk_at "zs"
        exact ⟨c2 :: hs, _, I.step (by omega) q2 q3, by rw [S_app]; rfl⟩
      · walk_at "zs"
        exact ⟨hs, _, I.skip (Nat.eq_zero_of_not_pos fun q => z (Int.ofNat_lt.mpr q)), rfl⟩
    · rintro e ⟨hs, a6, I, rfl⟩
      have hv := I.done hN2
      have few : hs.length ≤ 7 + 1 := I.few
      have pos := I.pos
      have wrap : ∀ (o3 : O) (t : List Nat) (a2 a6 : Option O), Tape o3 → (∀ c ∈ t, isHex c) → 1 ≤ t.length → t.length ≤ 8 → hval t = N →
          Ev (evSs (fun j => ((T[j]?).map CD.io).getD []) (Z.run T (n + 1)) (d__law_numeral.body.drop 4)) [some o3, some (.d (.int v)), a2, some (.d (.int (s : Nat))), some (.d (.str (Str.ofString "0x" ++ S t))), some (.d (.str X)), a6] QF := fun o3 t a2 a6 h1 h2 h3 h4 h5 => by
        have e : Str.ofString "0x" ++ S t = S (48 :: 120 :: t) := S_app [48, 120] t
        rw [e]
        have b := Body.hex h3 h4 h2
        rw [h5] at b
        exact numeral_fin h1 b hN k
      have l1 : lim ((Str.ofString "0x").length + (S hs).length) = true := by
        rw [S_len]
        exact lim_le (by have : (Str.ofString "0x").length = 2 := rfl
                         omega)
      have l2 : lim (S hs).length = true := by
        rw [S_len]
        exact lim_le (by omega)
      walk_at "zs"
      refine ifD (fun h8 => ?_) (fun h8 => ?_)
      · walk_at "zs"
        refine draw_ok ht2 (by decide) (by decide) fun d2 o3 ht3 _ _ => ?_
        walk_at "zs"
        refine ifD (fun hz => ?_) (fun hz => ?_)
        · have h8 : ((S hs).length : Int) < 8 := h8
          rw [S_len] at h8
          have l3 : lim ((Str.ofString "0").length + (S hs).length) = true := by
            rw [S_len]
            exact lim_le (by have : (Str.ofString "0").length = 1 := rfl
                             omega)
          have e0 : Str.ofString "0" ++ S hs = S (48 :: hs) := S_app [48] hs
          have l4 : lim ((Str.ofString "0x").length + (Str.ofString "0" ++ S hs).length) = true := by
            rw [e0, S_len]
            exact lim_le (by have : (Str.ofString "0x").length = 2 := rfl
                             simp
                             omega)
          walk_at "zto 2"
          rw [e0]
          refine wrap o3 (48 :: hs) _ _ ht3 (fun c hc => ?_) (by simp) (by simp; omega) (by rw [hval_cons, hv, show L84.hv 48 = 0 from rfl, Nat.zero_mul, Nat.zero_add])
          rcases List.mem_cons.mp hc with rfl | hc
          · exact .inl ⟨by decide, by decide⟩
          · exact I.hex c hc
        · walk_at "zto 2"
          exact wrap o3 hs _ _ ht3 I.hex pos (by omega) hv
      · walk_at "zto 2"
        exact wrap o2 hs _ _ ht2 I.hex pos (by omega) hv
  · walk_at "zto 2"
    exact numeral_fin ht1 (Body.dec hN2) hN k
theorem numeral_ok {n : Nat} {o : O} {v : Int} {Q : O → Z.Env → Prop} (ht : Tape o) (hv : v.natAbs ≤ 4294967295) (k : ∀ o' ng b m, Tape o' → Body b m → v = (if ng = true then -((m : Nat) : Int) else m) → Q (.d (.str (S ((if ng = true then [45] else []) ++ b)))) [some o', none]) : Does T (n + 2) 11 [o, .d (.int v)] Q := by
  refine dm__law_numeral ?_
  have k2 : ∀ (o' : O) (ng : Bool) (b : List Nat) (m : Nat) (r : Z.Env), Tape o' → Body b m → v = (if ng = true then -((m : Nat) : Int) else m) → Q (.d (.str (S ((if ng = true then [45] else []) ++ b)))) (keepIo d__law_numeral.io (some o' :: r)) := fun o' ng b m r h1 h2 h3 => by
    have : keepIo d__law_numeral.io (some o' :: r) = [some o', none] := by
      rcases r with _ | ⟨a, r⟩ <;> simp [d__law_numeral, keepIo]
    rw [this]
    exact k o' ng b m h1 h2 h3
  walk_at "zs"
  refine ifD (fun h => ?_) (fun h => ?_)
  · walk_at "zto 5"
    have e : v = ((v.natAbs : Nat) : Int) := by omega
    have := numeral_mid (n := n) (v := v) (QF := fun f e => match f with | .rt o => Q o (keepIo d__law_numeral.io e) | .nx => Q (.d .none) (keepIo d__law_numeral.io e) | _ => False) ht rfl hv k2
    rw [← e] at this
    exact this
  · walk_at "zto 5"
    have e : -v = ((v.natAbs : Nat) : Int) := by omega
    rw [e]
    exact numeral_mid ht rfl hv k2
end L84
/-! P9: k84: the generator of a token -/
namespace L84
open PySem PySem.Spec PyProof.Rows L2 Z
abbrev LS : Str := Str.ofString "abcdefghijklmnopqrstuvwxyzABCDEFGHIJKLMNOPQRSTUVWXYZ0123456789_"
theorem LS_W : (∀ c ∈ LS.cps.toList, isW c = true) ∧ (∀ c ∈ WS, c ∈ LS.cps.toList) := by decide +kernel
theorem isW_LS (c : Nat) : isW c = decide (c ∈ LS.cps.toList) := by
  by_cases h : c ∈ LS.cps.toList
  · rw [decide_eq_true h]; exact LS_W.1 c h
  · rw [decide_eq_false h]; exact decide_eq_false fun q => h (LS_W.2 c q)
/-- the texts may stand side by side -/
def Sep (t r : List Nat) : Prop := ∀ c d, r[0]? = some c → t.getLast? = some d → isW c = true → isW d = true → False
structure TokG (t : List Nat) (kd : Str) (v : PyData) : Prop where
  good : ∀ r, Sep t r → Good t kd v r
  pos : 1 ≤ t.length
  few : t.length ≤ 20
  kind : kd = "word" ∨ kd = "number" ∨ kd = "symbol"
  val : v = .str (S t) ∨ ∃ i : Int, v = .int i ∧ i.natAbs ≤ 4294967295
theorem stops_of {t r : List Nat} (h : Sep t r) (hp : 1 ≤ t.length) (hw : ∀ d, t.getLast? = some d → isW d = true) : Stops r := fun c hc => by
  cases q : isW c with
  | false => rfl
  | true =>
    cases q2 : t.getLast? with
    | none => rw [List.getLast?_eq_none_iff] at q2; subst q2; simp at hp
    | some d => exact (h c d hc q2 q (hw d q2)).elim
theorem wordG {c : Nat} {ws : List Nat} (hc : c ∈ LET.cps.toList) (hw : ∀ x ∈ ws, isW x = true) (hl : ws.length ≤ 19) : TokG (c :: ws) "word" (.str (S (c :: ws))) := by
  have aw : ∀ x ∈ c :: ws, isW x = true := fun x hx => by
    rcases List.mem_cons.mp hx with rfl | hx
    · exact LET_W _ hc
    · exact hw x hx
  exact ⟨fun r h => Good.word hc hw hl (stops_of h (by simp) fun d hd => aw d (List.mem_of_getLast? hd)), by simp, by simp; omega, .inl rfl, .inl rfl⟩
theorem numG {ng : Bool} {b : List Nat} {m : Nat} {i : Int} (hb : Body b m) (hi : i = if ng = true then -(m : Int) else m) (hm : i.natAbs ≤ 4294967295) : TokG ((if ng = true then [45] else []) ++ b) "number" (.int i) := by
  subst hi
  have hl := hb.len
  refine ⟨fun r h => Good.num hb (stops_of h (by simp; omega) fun d hd => ?_), by simp; omega, by cases ng <;> simp <;> omega, .inr (.inl rfl), .inr ⟨_, rfl, hm⟩⟩
  rw [List.getLast?_append] at hd
  cases q : b.getLast? with
  | none => rw [List.getLast?_eq_none_iff] at q; subst q; simp at hl
  | some e =>
    rw [q] at hd
    simp at hd
    subst hd
    exact hb.allW e (List.mem_of_getLast? q)
theorem symG {b : List Nat} (hb : (∃ c, b = [c] ∧ c ∈ (Str.ofString "{}[];:,").cps.toList) ∨ b = [46, 46] ∨ b = [95]) : TokG b "symbol" (.str (S b)) := by
  refine ⟨fun r h => Good.sym ?_, ?_, ?_, .inr (.inr rfl), .inl rfl⟩
  · rcases hb with h1 | h1 | h1
    · exact .inl h1
    · exact .inr (.inl h1)
    · refine .inr (.inr ⟨h1, stops_of h (by rw [h1]; decide) fun d hd => ?_⟩)
      rw [h1] at hd
      have : d = 95 := by simpa using hd.symm
      rw [this]
      exact W_of (by omega)
  · rcases hb with ⟨c, h1, _⟩ | h1 | h1 <;> rw [h1] <;> simp
  · rcases hb with ⟨c, h1, _⟩ | h1 | h1 <;> rw [h1] <;> simp
theorem LS_facts : ∀ k, k < 63 → (match LS.cps.toList[k]? with | some c => isW c && (decide (52 ≤ k) || decide (c ∈ LET.cps.toList)) | none => false) = true := by decide +kernel
theorem LS_at {v : Int} (h0 : 0 ≤ v) (h1 : v < 63) : ∃ c, index (.str LS) (.int v) = some (.str (S [c])) ∧ isW c = true ∧ (v < 52 → c ∈ LET.cps.toList) := by
  have f := LS_facts v.toNat (by omega)
  revert f
  cases q : LS.cps.toList[v.toNat]? with
  | none => intro f; simp at f
  | some c =>
    intro f
    have f : (isW c && (decide (52 ≤ v.toNat) || decide (c ∈ LET.cps.toList))) = true := f
    obtain ⟨f1, f2⟩ := Bool.and_eq_true_iff.mp f
    refine ⟨c, ?_, f1, fun h => ?_⟩
    · rw [← S_of LS]
      exact index_S (by decide +kernel) h0 q
    · rcases Bool.or_eq_true_iff.mp f2 with z | z
      · have := of_decide_eq_true z; omega
      · exact of_decide_eq_true z
theorem words_at {v : Int} (h0 : 0 ≤ v) (h1 : v < 8) : ∃ t, index (.list [.str "u8", .str "in", .str "signed", .str "list", .str "i16be", .str "x", .str "a_y", .str "A0_"]) (.int v) = some (.str (S t)) ∧ TokG t "word" (.str (S t)) := by
  have aw : ∀ {l : List Nat}, (l.all isW) = true → ∀ x ∈ l, isW x = true := fun h => List.all_eq_true.mp h
  rcases (show v = 0 ∨ v = 1 ∨ v = 2 ∨ v = 3 ∨ v = 4 ∨ v = 5 ∨ v = 6 ∨ v = 7 by omega) with rfl | rfl | rfl | rfl | rfl | rfl | rfl | rfl
  · exact ⟨[117, 56], rfl, wordG (by decide +kernel) (aw (by decide +kernel)) (by decide)⟩
  · exact ⟨[105, 110], rfl, wordG (by decide +kernel) (aw (by decide +kernel)) (by decide)⟩
  · exact ⟨[115, 105, 103, 110, 101, 100], rfl, wordG (by decide +kernel) (aw (by decide +kernel)) (by decide)⟩
  · exact ⟨[108, 105, 115, 116], rfl, wordG (by decide +kernel) (aw (by decide +kernel)) (by decide)⟩
  · exact ⟨[105, 49, 54, 98, 101], rfl, wordG (by decide +kernel) (aw (by decide +kernel)) (by decide)⟩
  · exact ⟨[120], rfl, wordG (by decide +kernel) (aw (by decide +kernel)) (by decide)⟩
  · exact ⟨[97, 95, 121], rfl, wordG (by decide +kernel) (aw (by decide +kernel)) (by decide)⟩
  · exact ⟨[65, 48, 95], rfl, wordG (by decide +kernel) (aw (by decide +kernel)) (by decide)⟩
theorem syms_at {v : Int} (h0 : 0 ≤ v) (h1 : v < 9) : ∃ t, index (.list [.str "{", .str "}", .str "[", .str "]", .str ";", .str ":", .str ",", .str "..", .str "_"]) (.int v) = some (.str (S t)) ∧ TokG t "symbol" (.str (S t)) := by
  rcases (show v = 0 ∨ v = 1 ∨ v = 2 ∨ v = 3 ∨ v = 4 ∨ v = 5 ∨ v = 6 ∨ v = 7 ∨ v = 8 by omega) with rfl | rfl | rfl | rfl | rfl | rfl | rfl | rfl | rfl
  · exact ⟨[123], rfl, symG (.inl ⟨_, rfl, by decide +kernel⟩)⟩
  · exact ⟨[125], rfl, symG (.inl ⟨_, rfl, by decide +kernel⟩)⟩
  · exact ⟨[91], rfl, symG (.inl ⟨_, rfl, by decide +kernel⟩)⟩
  · exact ⟨[93], rfl, symG (.inl ⟨_, rfl, by decide +kernel⟩)⟩
  · exact ⟨[59], rfl, symG (.inl ⟨_, rfl, by decide +kernel⟩)⟩
  · exact ⟨[58], rfl, symG (.inl ⟨_, rfl, by decide +kernel⟩)⟩
  · exact ⟨[44], rfl, symG (.inl ⟨_, rfl, by decide +kernel⟩)⟩
  · exact ⟨[46, 46], rfl, symG (.inr (.inl rfl))⟩
  · exact ⟨[95], rfl, symG (.inr (.inr rfl))⟩
theorem sizes_at {v : Int} (h0 : 0 ≤ v) (h1 : v < 4) : ∃ m : Nat, index (.list [.int 0, .int 1, .int 3, .int 19]) (.int v) = some (.int (m : Nat)) ∧ m ≤ 19 := by
  rcases (show v = 0 ∨ v = 1 ∨ v = 2 ∨ v = 3 by omega) with rfl | rfl | rfl | rfl
  · exact ⟨0, rfl, by omega⟩
  · exact ⟨1, rfl, by omega⟩
  · exact ⟨3, rfl, by omega⟩
  · exact ⟨19, rfl, by omega⟩
theorem adds_at {v : Int} (h0 : 0 ≤ v) (h1 : v < 4) : ∃ m : Int, index (.list [.int 0, .int 0, .int 1, .int 131070]) (.int v) = some (.int m) ∧ 0 ≤ m ∧ m ≤ 131070 := by
  rcases (show v = 0 ∨ v = 1 ∨ v = 2 ∨ v = 3 by omega) with rfl | rfl | rfl | rfl
  · exact ⟨0, rfl, by omega⟩
  · exact ⟨0, rfl, by omega⟩
  · exact ⟨1, rfl, by omega⟩
  · exact ⟨131070, rfl, by omega⟩
end L84
/-! P10: k84: the generator of a token, walked -/
namespace L84
open PySem PySem.Spec PyProof.Rows L2 Z
theorem rng_src {m : Nat} (h : m ≤ 1000) : source .rng1 [.d (.int (m : Nat))] = some (rangeD 0 m) := by
  show (if okR (m : Nat) = true then some (rangeD 0 ((m : Nat) : Int).toNat) else none) = _
  have : okR (m : Nat) = true := by unfold okR; exact decide_eq_true (by omega)
  rw [if_pos this, Int.toNat_natCast]
theorem token_ok {n : Nat} {o : O} {Q : O → Z.Env → Prop} (ht : Tape o) (k : ∀ o' t kd v, Tape o' → TokG t kd v → Q (.d (.tuple [.str (S t), .str kd, v])) [some o']) : Does T (n + 3) 12 [o] Q := by
  refine dm__law_token ?_
  have k2 : ∀ (o' : O) (t : List Nat) (kd : Str) (v : PyData) (r : Z.Env), Tape o' → TokG t kd v → Q (.d (.tuple [.str (S t), .str kd, v])) (keepIo d__law_token.io (some o' :: r)) := fun o' t kd v r h1 h2 => by
    have : keepIo d__law_token.io (some o' :: r) = [some o'] := by simp [d__law_token, keepIo]
    rw [this]
    exact k o' t kd v h1 h2
  walk_at "zs"
  refine draw_ok ht (by decide) (by decide) fun s o1 ht1 s0 s4 => ?_
  walk_at "zs"
  refine ifD (fun hs => ?_) (fun hs => ?_)
  · walk_at "zs"
    refine draw_ok ht1 (by decide) (by decide) fun v o2 ht2 v0 v1 => ?_
    obtain ⟨c, i1, i2, i3⟩ := LS_at v0 (by omega)
    walk_at "zs"
    refine draw_ok ht2 (by decide) (by decide) fun v3 o3 ht3 v30 v31 => ?_
    obtain ⟨m, m1, m2⟩ := sizes_at v30 v31
    have hr := rng_src (m := m) (by omega)
    walk_at "zs"
    clear hr
    refine walk_e (fun j e => ∃ (ws : List Nat) (o' : O) (a4 a5 : Option O), Tape o' ∧ ws.length = j ∧ (∀ x ∈ ws, isW x = true) ∧ e = [some o', some (.d (.str LS)), some (.d (.int s)), some (.d (.str (S (c :: ws)))), a4, a5]) ⟨[], o3, none, none, ht3, rfl, by simp, rfl⟩ ?_ ?_
    · rintro j x e hx ⟨ws, o', a4, a5, ht', hl, hw, rfl⟩
      have hj : j < m := by
        have := (List.getElem?_eq_some_iff.mp hx).1
        simpa [rangeD] using this
      refine ⟨_, rfl, ?_⟩
      walk_at "zs"
      refine draw_ok ht' (by decide) (by decide) fun v5 o5 ht5 v50 v51 => ?_
      obtain ⟨c5, q1, q2, _⟩ := LS_at v50 (by omega)
      have lm : lim ((S (c :: ws)).length + (S [c5]).length) = true := by
        rw [S_len, S_len]
        exact lim_le (by simp; omega)
      walk_at "zs"
      refine ⟨ws ++ [c5], o5, _, _, ht5, by simp [hl], fun x hx => ?_, by rw [S_app]; rfl⟩
      rcases List.mem_append.mp hx with hx | hx
      · exact hw x hx
      · rw [List.mem_singleton] at hx; rw [hx]; exact q2
    · rintro e ⟨ws, o', a4, a5, ht', hl, hw, rfl⟩
      have hl2 : ws.length = m := by rw [hl]; simp [rangeD]
      walk_at "zs"
      exact k2 _ _ _ _ _ ht' (wordG (i3 (by omega)) hw (by omega))
  · walk_at "zs"
    refine ifD (fun hs1 => ?_) (fun hs1 => ?_)
    · walk_at "zs"
      refine draw_ok ht1 (by decide) (by decide) fun v o2 ht2 v0 v1 => ?_
      obtain ⟨t, i1, i2⟩ := words_at v0 v1
      walk_at "zs"
      exact k2 _ _ _ _ _ ht2 i2
    · walk_at "zs"
      refine ifD (fun hs2 => ?_) (fun hs2 => ?_)
      · walk_at "zs"
        refine draw_ok ht1 (by decide) (by decide) fun a o2 ht2 a0 a1 => ?_
        walk_at "zs"
        refine draw_ok ht2 (by decide) (by decide) fun b o3 ht3 b0 b1 => ?_
        have hm : okMul a b = true := okMul_r (decide_eq_true (by omega))
        walk_at "zs"
        refine ⟨_, bin_mul hm, ?_⟩
        walk_at "zs"
        refine draw_ok ht3 (by decide) (by decide) fun d o4 ht4 d0 d1 => ?_
        obtain ⟨m, m1, m2, m3⟩ := adds_at d0 d1
        have ab : a * b ≤ 65535 * 65535 := Int.mul_le_mul (by omega) (by omega) b0 (by decide)
        have ab0 : 0 ≤ a * b := Int.mul_nonneg a0 b0
        walk_at "zs"
        refine draw_ok ht4 (by decide) (by decide) fun f o5 ht5 f0 f1 => ?_
        walk_at "zs"
        refine ifD (fun hf => ?_) (fun hf => ?_)
        · walk_at "zs"
          refine numeral_ok ht5 (by omega) fun o6 ng bb mm ht6 hb he => ?_
          walk_at "zs"
          exact k2 _ _ _ _ _ ht6 (numG hb he (by omega))
        · walk_at "zs"
          refine numeral_ok ht5 (by omega) fun o6 ng bb mm ht6 hb he => ?_
          walk_at "zs"
          exact k2 _ _ _ _ _ ht6 (numG hb he (by omega))
      · walk_at "zs"
        refine draw_ok ht1 (by decide) (by decide) fun v o2 ht2 v0 v1 => ?_
        obtain ⟨t, i1, i2⟩ := syms_at v0 v1
        walk_at "zs"
        exact k2 _ _ _ _ _ ht2 i2
end L84
/-! P11: k84: the tokens are laid -/
namespace L84
open PySem PySem.Spec PyProof.Rows L2 Z
structure Tk where
  t : List Nat
  k : Str
  v : PyData
def TkOk (x : Tk) : Prop := TokG x.t x.k x.v
/-- the tokens with their places -/
def placed : List Tk → List Nat → List PyData
  | x :: xs, p :: ps => .tuple [.str x.k, x.v, .int (p : Nat)] :: placed xs ps
  | _, _ => []
theorem placed_snoc : ∀ {xs : List Tk} {ps : List Nat} {x : Tk} {p : Nat}, xs.length = ps.length → placed (xs ++ [x]) (ps ++ [p]) = placed xs ps ++ [.tuple [.str x.k, x.v, .int (p : Nat)]]
  | [], [], _, _, _ => rfl
  | y :: ys, q :: qs, x, p, h => by
    show _ :: placed (ys ++ [x]) (qs ++ [p]) = _ :: (placed ys qs ++ _)
    rw [placed_snoc (by simpa using h)]
  | [], _ :: _, _, _, h => by simp at h
  | _ :: _, [], _, _, h => by simp at h
def Blank (b : List Nat) : Prop := ∀ c ∈ b, c ∈ BLK.cps.toList
theorem BLK_W : ∀ c ∈ BLK.cps.toList, isW c = false := by decide +kernel
theorem lay_blank {b r : List Nat} {ts : List PyData} : ∀ {p : Nat}, Blank b → Lay r (p + b.length) ts → Lay (b ++ r) p ts := by
  induction b with
  | nil => intro p _ h; exact h
  | cons c b ih =>
    intro p hb h
    exact Lay.blank (hb c (List.mem_cons_self ..)) (ih (fun d hd => hb d (List.mem_cons_of_mem _ hd)) (by rw [List.length_cons] at h; rw [show p + 1 + b.length = p + (b.length + 1) by omega]; exact h))
/-- whatever fits may follow -/
def Open (l : List Nat) (ts : List PyData) : Prop := ∀ r ts', Sep l r → Lay r l.length ts' → Lay (l ++ r) 0 (ts ++ ts')
theorem open_base {b : List Nat} (hb : Blank b) : Open b [] := fun r ts' _ h => lay_blank hb (by rw [Nat.zero_add]; exact h)
theorem open_blank {l b : List Nat} {ts : List PyData} (ho : Open l ts) (hb : Blank b) : Open (l ++ b) ts := fun r ts' hs h => by
  rw [List.append_assoc]
  refine ho (b ++ r) ts' ?_ (lay_blank hb (by rw [List.length_append] at h; exact h))
  cases b with
  | nil => simpa using hs
  | cons c b =>
    intro c' d h1 _ h3 _
    have : c' = c := by simpa using h1.symm
    rw [this, BLK_W c (hb c (List.mem_cons_self ..))] at h3
    cases h3
theorem open_tok {l : List Nat} {x : Tk} {ts : List PyData} (ho : Open l ts) (hx : TkOk x) (hs : Sep l x.t) : Open (l ++ x.t) (ts ++ [.tuple [.str x.k, x.v, .int (l.length : Nat)]]) := fun r ts' hs2 h => by
  rw [List.append_assoc, List.append_assoc]
  have pos := hx.pos
  refine ho (x.t ++ r) _ (fun c d h1 h2 h3 h4 => ?_) ?_
  · cases q : x.t with
    | nil => rw [q] at pos; simp at pos
    | cons e t =>
      rw [q] at h1
      exact hs c d (by rw [q]; simpa using h1) h2 h3 h4
  · refine Lay.tok (hx.good r fun c d h1 h2 h3 h4 => hs2 c d h1 ?_ h3 h4) (by rw [List.length_append] at h; exact h)
    rw [List.getLast?_append, h2]
    rfl
theorem blank3 {v : Int} (h0 : 0 ≤ v) (h1 : v < 3) : ∃ b, index (.list [.str "", .str " ", .str "\n"]) (.int v) = some (.str (S b)) ∧ Blank b ∧ b.length ≤ 1 := by
  rcases (show v = 0 ∨ v = 1 ∨ v = 2 by omega) with rfl | rfl | rfl
  · exact ⟨[], rfl, by unfold Blank; simp, by decide⟩
  · exact ⟨[32], rfl, by unfold Blank; decide +kernel, by decide⟩
  · exact ⟨[10], rfl, by unfold Blank; decide +kernel, by decide⟩
theorem blank5 {v : Int} (h0 : 0 ≤ v) (h1 : v < 5) : ∃ b, index (.list [.str "", .str "", .str " ", .str "\n", .str "\t"]) (.int v) = some (.str (S b)) ∧ Blank b ∧ b.length ≤ 1 := by
  rcases (show v = 0 ∨ v = 1 ∨ v = 2 ∨ v = 3 ∨ v = 4 by omega) with rfl | rfl | rfl | rfl | rfl
  · exact ⟨[], rfl, by unfold Blank; simp, by decide⟩
  · exact ⟨[], rfl, by unfold Blank; simp, by decide⟩
  · exact ⟨[32], rfl, by unfold Blank; decide +kernel, by decide⟩
  · exact ⟨[10], rfl, by unfold Blank; decide +kernel, by decide⟩
  · exact ⟨[9], rfl, by unfold Blank; decide +kernel, by decide⟩
theorem blank4 {v : Int} (h0 : 0 ≤ v) (h1 : v < 4) : ∃ b, index (.list [.str "", .str " ", .str "\n", .str "\t\n "]) (.int v) = some (.str (S b)) ∧ Blank b ∧ b.length ≤ 3 := by
  rcases (show v = 0 ∨ v = 1 ∨ v = 2 ∨ v = 3 by omega) with rfl | rfl | rfl | rfl
  · exact ⟨[], rfl, by unfold Blank; simp, by decide⟩
  · exact ⟨[32], rfl, by unfold Blank; decide +kernel, by decide⟩
  · exact ⟨[10], rfl, by unfold Blank; decide +kernel, by decide⟩
  · exact ⟨[9, 10, 32], rfl, by unfold Blank; decide +kernel, by decide⟩
theorem index_last {l : List Nat} {d : Nat} (hl : lim l.length = true) (h : l.getLast? = some d) : index (.str (S l)) (.int (-1)) = some (.str (S [d])) := by
  have hp : 0 < l.length := by
    cases l with
    | nil => simp at h
    | cons c l => simp
  show (if lim (S l).length = true then ((ixN (S l).cps.toList.length (-1)).bind fun j => (S l).cps.toList[j]?).map _ else none) = _
  rw [S_len, if_pos hl, S_cps]
  have e : ixN l.length (-1) = some (l.length - 1) := by
    unfold ixN
    rw [if_neg (by omega), if_pos (by omega)]
    congr 1
    omega
  rw [e]
  show (l[l.length - 1]?).map _ = _
  rw [← List.getLast?_eq_getElem?, h]
  rfl
end L84
/-! P12: k84: the tokens are laid, walked -/
namespace L84
open PySem PySem.Spec PyProof.Rows L2 Z
theorem spaced_ok {n : Nat} {o : O} {xs : List Tk} {Q : O → Z.Env → Prop} (ht : Tape o) (hx : ∀ x ∈ xs, TkOk x) (hl : xs.length ≤ 30)
    (k : ∀ o' l ps, Tape o' → Open l (placed xs ps) → ps.length = xs.length → l.length ≤ 1000 → (∀ p ∈ ps, p ≤ 1000) → Q (.d (.tuple [.str (S l), .list (ps.map fun p => .int (p : Nat))])) [some o', none]) :
    Does T (n + 2) 2 [o, .d (.list (xs.map fun x => .str (S x.t)))] Q := by
  refine dm__law_spaced ?_
  walk_at "zs"
  refine draw_ok ht (by decide) (by decide) fun v o1 ht1 v0 v1 => ?_
  obtain ⟨b, i1, i2, i3⟩ := blank3 v0 v1
  walk_at "zs"
  refine walk_e (fun j e => ∃ (l ps : List Nat) (o' : O) (a5 a6 : Option O), Tape o' ∧ ps.length = j ∧ l.length ≤ 1 + 21 * j ∧ (∀ p ∈ ps, p ≤ 1000) ∧ Open l (placed (xs.take j) ps) ∧
    e = [some o', some (.d (.list (xs.map fun x => .str (S x.t)))), some (.d (.str LS)), some (.d (.str (S l))), some (.lst (ps.map fun p => .int (p : Nat))), a5, a6]) ⟨b, [], o1, none, none, ht1, rfl, by omega, by simp, open_base i2, rfl⟩ ?_ ?_
  · rintro j y e hy ⟨l, ps, o', a5, a6, ht', hps, hll, hpm, hop, rfl⟩
    rw [List.getElem?_map] at hy
    obtain ⟨x, hxj, rfl⟩ := Option.map_eq_some_iff.mp hy
    have hj : j < xs.length := (List.getElem?_eq_some_iff.mp hxj).1
    have hok := hx x (List.mem_of_getElem? hxj)
    have xp := hok.pos
    have xf := hok.few
    refine ⟨_, rfl, ?_⟩
    walk_at "zs"
    refine draw_ok ht' (by decide) (by decide) fun w o2 ht2 w0 w1 => ?_
    obtain ⟨c, q1, q2, q3⟩ := blank5 w0 w1
    have hlim : lim l.length = true := lim_le (by omega)
    -- behind the choice of the blank
    have fin : ∀ (c : List Nat) (QF : Fl → Z.Env → Prop), Blank c → c.length ≤ 1 → Sep (l ++ c) x.t → (∀ (l2 ps2 : List Nat) (a5 a6 : Option O), ps2.length = j + 1 → l2.length ≤ 1 + 21 * (j + 1) → (∀ p ∈ ps2, p ≤ 1000) → Open l2 (placed (xs.take (j + 1)) ps2) →
        QF .nx [some o2, some (.d (.list (xs.map fun x => .str (S x.t)))), some (.d (.str LS)), some (.d (.str (S l2))), some (.lst (ps2.map fun p => .int (p : Nat))), a5, a6]) →
        Ev (evSs (fun j => ((T[j]?).map CD.io).getD []) (Z.run T (n + 1)) [.set 3 (.bin .Add (.var 3) (.var 6)), .app 4 (.blt .len [.var 3]), .set 3 (.bin .Add (.var 3) (.var 5))])
          [some o2, some (.d (.list (xs.map fun x => .str (S x.t)))), some (.d (.str LS)), some (.d (.str (S l))), some (.lst (ps.map fun p => .int (p : Nat))), some (.d (.str (S x.t))), some (.d (.str (S c)))] QF := fun c QF hc hc1 hsep kk => by
      have l1 : lim ((S l).length + (S c).length) = true := by
        rw [S_len, S_len]; exact lim_le (by omega)
      have l2 : lim (S l ++ S c).length = true := by
        rw [S_app, S_len, List.length_append]; exact lim_le (by omega)
      have l3 : lim ((S l ++ S c).length + (S x.t).length) = true := by
        rw [S_app, S_len, S_len, List.length_append]; exact lim_le (by omega)
      have l4 : (ps.map fun p => PyData.int ((p : Nat) : Int)).length < 16777216 := by
        rw [List.length_map]; omega
      walk_at "zs"
      rw [S_app, S_app, S_len]
      have e1 : (ps.map fun p => PyData.int ((p : Nat) : Int)) ++ [.int ((l ++ c).length : Nat)] = (ps ++ [(l ++ c).length]).map fun p => PyData.int ((p : Nat) : Int) := by simp
      rw [e1]
      refine kk _ _ _ _ (by simp [hps]) (by simp; omega) (fun p hp => ?_) ?_
      · rcases List.mem_append.mp hp with hp | hp
        · exact hpm p hp
        · rw [List.mem_singleton] at hp
          rw [hp, List.length_append]
          omega
      · rw [List.take_succ, hxj]
        show Open _ (placed (xs.take j ++ [x]) _)
        rw [placed_snoc (by rw [List.length_take]; omega)]
        exact open_tok (open_blank hop hc) hok hsep
    walk_at "zs"
    rcases c with _ | ⟨c0, cs⟩
    · rcases hq : l.getLast? with _ | d
      · have el : l = [] := List.getLast?_eq_none_iff.mp hq
        subst el
        walk_at "zto 3"
        exact fin [] _ q2 q3 (fun c d _ h _ _ => by simp at h) fun l2 ps2 a5 a6 h1 h2 h3 h4 => ⟨l2, ps2, o2, a5, a6, ht2, h1, h2, h3, h4, rfl⟩
      · have dl : decide (S l = Str.ofString "") = false := decide_eq_false fun z => by
          have z : S l = S [] := z
          rw [S_inj] at z
          subst z
          simp at hq
        obtain ⟨f, rest, ef⟩ : ∃ f rest, x.t = f :: rest := by
          cases q : x.t with
          | nil => rw [q] at xp; simp at xp
          | cons f rest => exact ⟨f, rest, rfl⟩
        have il := index_last hlim hq
        have i0 : index (.str (S x.t)) (.int 0) = some (.str (S [f])) := index_S (lim_le (by omega)) (by decide) (by rw [ef]; rfl)
        have same : ∀ (c e : Nat), x.t[0]? = some c → (l ++ []).getLast? = some e → c = f ∧ e = d := fun c e h1 h2 => by
          rw [List.append_nil, hq] at h2
          rw [ef] at h1
          exact ⟨by simpa using h1.symm, by simpa using h2.symm⟩
        walk_at "zs"
        refine ifT (by show (!(decide _)) = true; rw [dl]; rfl) ?_
        walk_at "zs"
        refine ifB (fun hd => ?_) (fun hd => ?_)
        · walk_at "zs"
          refine ifB (fun hf => ?_) (fun hf => ?_)
          · walk_at "zto 3"
            refine fin [32] _ (by unfold Blank; decide +kernel) (by decide) (fun c e h1 h2 h3 h4 => ?_) fun l2 ps2 a5 a6 h1 h2 h3 h4 => ⟨l2, ps2, o2, a5, a6, ht2, h1, h2, h3, h4, rfl⟩
            have : e = 32 := by
              rw [List.getLast?_append] at h2
              simpa using h2.symm
            rw [this, BLK_W 32 (by decide +kernel)] at h4
            cases h4
          · walk_at "zto 3"
            refine fin [] _ q2 q3 (fun c e h1 h2 h3 h4 => ?_) fun l2 ps2 a5 a6 h1 h2 h3 h4 => ⟨l2, ps2, o2, a5, a6, ht2, h1, h2, h3, h4, rfl⟩
            obtain ⟨rfl, rfl⟩ := same c e h1 h2
            rw [isW_LS] at h3
            rw [in_T (of_decide_eq_true h3)] at hf
            cases hf
        · walk_at "zto 3"
          refine fin [] _ q2 q3 (fun c e h1 h2 h3 h4 => ?_) fun l2 ps2 a5 a6 h1 h2 h3 h4 => ⟨l2, ps2, o2, a5, a6, ht2, h1, h2, h3, h4, rfl⟩
          obtain ⟨rfl, rfl⟩ := same c e h1 h2
          rw [isW_LS] at h4
          rw [in_T (of_decide_eq_true h4)] at hd
          cases hd
    · refine ifF (decide_eq_false fun z => ?_) ?_
      · have z : S (c0 :: cs) = S [] := z
        rw [S_inj] at z
        cases z
      walk_at "zto 3"
      refine fin (c0 :: cs) _ q2 q3 (fun c d h1 h2 h3 h4 => ?_) fun l2 ps2 a5 a6 h1 h2 h3 h4 => ⟨l2, ps2, o2, a5, a6, ht2, h1, h2, h3, h4, rfl⟩
      rw [List.getLast?_append] at h2
      have : d ∈ (c0 :: cs) := by
        cases q : (c0 :: cs).getLast? with
        | none => simp at q
        | some e =>
          rw [q] at h2
          simp at h2
          subst h2
          exact List.mem_of_getLast? q
      rw [BLK_W d (q2 d this)] at h4
      cases h4
  · rintro e ⟨l, ps, o', a5, a6, ht', hps, hll, hpm, hop, rfl⟩
    rw [List.length_map] at hps hll hop
    rw [List.take_length] at hop
    walk_at "zs"
    exact k _ _ _ ht' hop hps (by omega) hpm
end L84
/-! P13: k84: the tokens can be shown -/
namespace L84
open PySem PySem.Spec PyProof.Rows L2 Z
theorem WS_lt : ∀ c ∈ WS, c < 128 := by decide +kernel
theorem W_lt {c : Nat} (h : isW c = true) : c < 128 := WS_lt c (of_decide_eq_true h)
theorem SYM_lt : ∀ c ∈ (Str.ofString "{}[];:,").cps.toList, c < 128 := by decide +kernel
theorem good_lt {t r : List Nat} {kd : Str} {v : PyData} (g : Good t kd v r) : ∀ c ∈ t, c < 128 := by
  cases g with
  | word hc hw hl hr =>
    intro c h
    rcases List.mem_cons.mp h with rfl | h
    · exact W_lt (LET_W _ hc)
    · exact W_lt (hw c h)
  | num hb hr =>
    intro c h
    rcases List.mem_append.mp h with h | h
    · split at h
      · rw [List.mem_singleton] at h; omega
      · simp at h
    · exact W_lt (hb.allW c h)
  | sym hb =>
    intro c h
    rcases hb with ⟨d, rfl, hd⟩ | rfl | ⟨rfl, _⟩
    · rw [List.mem_singleton] at h; rw [h]; exact SYM_lt d hd
    · simp at h; omega
    · simp at h; omega
theorem tok_lt {x : Tk} (h : TkOk x) : ∀ c ∈ x.t, c < 128 := good_lt (h.good [] fun c d h _ _ _ => by simp at h)
theorem rep_len {l : List Nat} (h : ∀ c ∈ l, c < 128) : (reprText (S l)).length ≤ 10 * l.length + 2 := by
  have := PySem.StrLaws.reprText_len (S l) fun c hc => by
    rw [S_cps] at hc
    exact Nat.lt_trans (h c hc) (by decide)
  rw [S_len] at this
  exact this
theorem app_len (a b : Str) : (a ++ b).length = a.length + b.length := by
  rw [← S_of a, ← S_of b, S_app, S_len, S_len, S_len, List.length_append]
theorem join_len {L : Nat} : ∀ {xs : List Str}, (∀ x ∈ xs, x.length ≤ L) → (Str.join ", " xs).length ≤ xs.length * (L + 2)
  | [], _ => by show (Str.empty).length ≤ _; exact Nat.zero_le _
  | [x], h => by
    have := h x (List.mem_cons_self ..)
    show x.length ≤ 1 * (L + 2)
    omega
  | x :: y :: r, h => by
    have h1 := h x (List.mem_cons_self ..)
    have ih := join_len (xs := y :: r) fun z hz => h z (List.mem_cons_of_mem _ hz)
    show (x ++ ", " ++ Str.join ", " (y :: r)).length ≤ _
    rw [app_len, app_len, show (Str.ofString ", ").length = 2 from rfl]
    simp only [List.length_cons] at ih ⊢
    rw [Nat.add_mul (r.length + 1) 1]
    omega
theorem shown_tok {x : Tk} (h : TkOk x) {p : Nat} (hp : p ≤ 1000) : (PyData.tuple [.str x.k, x.v, .int (p : Nat)]).shown.length ≤ 6000 ∧ (PyData.tuple [.str x.k, x.v, .int (p : Nat)]).showable = true ∧ (PyData.tuple [.str x.k, x.v, .int (p : Nat)]).hasDict = false ∧ (PyData.tuple [.str x.k, x.v, .int (p : Nat)]).depth ≤ 3 := by
  have i1 : ∀ i : Int, i.natAbs ≤ 4294967295 → i.natAbs.log2 < 1920 := fun i hi => by
    by_cases z : i.natAbs = 0
    · rw [z]; decide
    · exact (Nat.log2_lt z).mpr (Nat.lt_of_le_of_lt hi (Nat.lt_of_lt_of_le (by decide : 4294967295 < 2 ^ 64) (Nat.pow_le_pow_right (by decide) (by decide))))
  have ip := i1 (p : Nat) (by omega)
  have hk : (reprText x.k).length ≤ 62 := by
    rcases h.kind with e | e | e <;> rw [e] <;> decide +kernel
  have hpl := PyProof.Rows.int_text_len_1921 ip
  have hv : x.v.shown.length ≤ 1921 ∧ x.v.showable = true ∧ x.v.hasDict = false ∧ x.v.depth ≤ 1 := by
    rcases h.val with e | ⟨i, e, hi⟩
    · rw [e]
      refine ⟨?_, by simp [PyData.showable], by simp [PyData.hasDict], by simp [PyData.depth]⟩
      rw [PyData.shown_str]
      have := rep_len (tok_lt h)
      have := h.few
      omega
    · rw [e]
      refine ⟨?_, by simp only [PyData.showable]; exact decide_eq_true (i1 i hi), by simp [PyData.hasDict], by simp [PyData.depth]⟩
      rw [PyData.shown_int]
      exact PyProof.Rows.int_text_len_1921 (i1 i hi)
  obtain ⟨v1, v2, v3, v4⟩ := hv
  refine ⟨?_, ?_, ?_, ?_⟩
  · rw [PyData.shown_tuple, app_len, app_len]
    have j := join_len (L := 1921) (xs := PyData.shownAll [.str x.k, x.v, .int (p : Nat)]) (by
      intro y hy
      simp only [PyData.shownAll, PyData.shown_str, PyData.shown_int, List.mem_cons, List.not_mem_nil, or_false] at hy
      rcases hy with rfl | rfl | rfl
      · omega
      · exact v1
      · exact hpl)
    rw [PyData.shownAll_length] at j
    have e1 : (Str.ofString "(").length = 1 := rfl
    have e2 : (Str.ofString (if (([.str x.k, x.v, .int (p : Nat)] : List PyData).length == 1) then ",)" else ")")).length ≤ 2 := by
      rw [if_neg (by simp)]
      decide +kernel
    simp only [List.length_cons, List.length_nil] at j e2 ⊢
    omega
  · simp only [PyData.showable, PyData.showableAll, v2, Bool.and_true, Bool.true_and]
    exact decide_eq_true ip
  · simp only [PyData.hasDict, PyData.hasDictAll, v3, Bool.or_false]
  · simp only [PyData.depth, PyData.depthAll]
    omega
end L84
/-! P14: k84: the list of the tokens can be shown -/
namespace L84
open PySem PySem.Spec PyProof.Rows L2 Z
theorem all_show : ∀ {xs : List Tk} {ps : List Nat}, (∀ x ∈ xs, TkOk x) → (∀ p ∈ ps, p ≤ 1000) →
    (∀ y ∈ PyData.shownAll (placed xs ps), y.length ≤ 6000) ∧ PyData.showableAll (placed xs ps) = true ∧ PyData.hasDictAll (placed xs ps) = false ∧ PyData.depthAll (placed xs ps) ≤ 3 ∧ (placed xs ps).length ≤ xs.length
  | [], ps, _, _ => by
    cases ps <;> simp [placed, PyData.shownAll, PyData.showableAll, PyData.hasDictAll, PyData.depthAll]
  | x :: xs, [], _, _ => by
    simp [placed, PyData.shownAll, PyData.showableAll, PyData.hasDictAll, PyData.depthAll]
  | x :: xs, p :: ps, h1, h2 => by
    obtain ⟨a1, a2, a3, a4⟩ := shown_tok (h1 x (List.mem_cons_self ..)) (h2 p (List.mem_cons_self ..))
    obtain ⟨b1, b2, b3, b4, b5⟩ := all_show (xs := xs) (ps := ps) (fun z hz => h1 z (List.mem_cons_of_mem _ hz)) (fun z hz => h2 z (List.mem_cons_of_mem _ hz))
    unfold placed
    refine ⟨fun y hy => ?_, ?_, ?_, ?_, ?_⟩
    · rw [PyData.shownAll_cons] at hy
      rcases List.mem_cons.mp hy with rfl | hy
      · exact a1
      · exact b1 y hy
    · simp only [PyData.showableAll, b2, Bool.and_true]; exact a2
    · simp only [PyData.hasDictAll, b3, Bool.or_false]; exact a3
    · simp only [PyData.depthAll]
      exact Nat.max_le.mpr ⟨a4, b4⟩
    · simp only [List.length_cons]; omega
theorem repr_ok {xs : List Tk} {ps : List Nat} (h1 : ∀ x ∈ xs, TkOk x) (h2 : ∀ p ∈ ps, p ≤ 1000) (hl : xs.length ≤ 30) : blt .repr [.d (.list (placed xs ps))] = some (.d (.str (PyData.list (placed xs ps)).shown)) := by
  obtain ⟨b1, b2, b3, b4, b5⟩ := all_show h1 h2
  have hsz : (PyData.list (placed xs ps)).shown.length ≤ 16777216 := by
    rw [PyData.shown_list, app_len, app_len]
    have j := join_len b1
    rw [PyData.shownAll_length] at j
    have e1 : (Str.ofString "[").length = 1 := rfl
    have e2 : (Str.ofString "]").length = 1 := rfl
    have : (placed xs ps).length * (6000 + 2) ≤ 30 * (6000 + 2) := Nat.mul_le_mul_right _ (by omega)
    omega
  have c : ((PyData.list (placed xs ps)).showable && !(PyData.list (placed xs ps)).hasDict && decide ((PyData.list (placed xs ps)).depth < 60) && lim (PyData.list (placed xs ps)).shown.length) = true := by
    have d : (PyData.list (placed xs ps)).depth < 60 := by simp only [PyData.depth]; omega
    rw [decide_eq_true d, lim_le hsz]
    simp only [PyData.showable, PyData.hasDict, b2, b3]
    rfl
  show (if _ = true then _ else none) = _
  rw [if_pos c]
end L84
/-! P15: k84: the law -/
namespace L84
open PySem PySem.Spec PyProof.Rows L2 Z
def tkD (x : Tk) : PyData := .tuple [.str (S x.t), .str x.k, x.v]
theorem law_ok (ns : List Int) : Does T 10 13 [.scr ns] fun r _ => r = .d (.bool true) := by
  refine dm_law ?_
  walk_at "zs"
  refine tape_ok fun o0 ht0 => ?_
  walk_at "zs"
  refine draw_ok ht0 (by decide) (by decide) fun v o1 ht1 v0 v1 => ?_
  obtain ⟨m, rfl⟩ := Int.eq_ofNat_of_zero_le v0
  have hr := rng_src (m := m) (by omega)
  walk_at "zs"
  clear hr
  refine ⟨by simp [rangeD]; omega, ?_⟩
  refine turns_e (fun j acc e => ∃ (xs : List Tk) (o' : O) (a7 : Option O), Tape o' ∧ xs.length = j ∧ (∀ x ∈ xs, TkOk x) ∧ acc = xs.map tkD ∧
    e = [some (.scr ns), some o', none, none, none, none, none, a7, none]) (by simp [rangeD]; omega) ?_ ⟨[], o1, none, ht1, rfl, by simp, rfl, rfl⟩ ?_
  · rintro j y acc e hy ⟨xs, o', a7, ht', hl, hx, rfl, rfl⟩
    refine ⟨_, rfl, ?_⟩
    walk_at "zs"
    refine token_ok ht' fun o2 t kd v ht2 hg => ?_
    walk_at "zs"
    refine ⟨xs ++ [⟨t, kd, v⟩], o2, _, ht2, by simp [hl], fun x hx2 => ?_, by simp [tkD], rfl⟩
    rcases List.mem_append.mp hx2 with q | q
    · exact hx x q
    · rw [List.mem_singleton] at q; rw [q]; exact hg
  · rintro ys e ⟨xs, o', a7, ht', hl, hx, rfl, rfl⟩
    have hm : xs.length ≤ 30 := by rw [hl]; simp [rangeD]; omega
    walk_at "zs"
    refine ⟨by rw [List.length_map]; omega, ?_⟩
    refine turns_e (fun j acc e => ∃ a8 : Option O, acc = (xs.take j).map (fun x => PyData.str (S x.t)) ∧
      e = [some (.scr ns), some o', some (.d (.list (xs.map tkD))), none, none, none, none, none, a8]) (by simp; omega) ?_ ⟨none, rfl, rfl⟩ ?_
    · rintro j y acc e hy ⟨a8, rfl, rfl⟩
      rw [List.getElem?_map] at hy
      obtain ⟨x, hxj, rfl⟩ := Option.map_eq_some_iff.mp hy
      refine ⟨_, rfl, ?_⟩
      walk_at "zs"
      refine ⟨_, ?_, rfl⟩
      rw [List.take_succ, hxj]
      simp
    · rintro ys e ⟨a8, rfl, rfl⟩
      rw [List.length_map, List.take_length]
      walk_at "zs"
      refine spaced_ok ht' hx hm fun o2 l ps ht2 hop hps hll hpm => ?_
      walk_at "zs"
      refine draw_ok ht2 (by decide) (by decide) fun w o3 ht3 w0 w1 => ?_
      obtain ⟨b, i1, i2, i3⟩ := blank4 w0 w1
      have l1 : lim ((S l).length + (S b).length) = true := by
        rw [S_len, S_len]; exact lim_le (by omega)
      have hr2 := rng_src (m := (xs.map tkD).length) (by rw [List.length_map]; omega)
      have hlay : Lay (l ++ b) 0 (placed xs ps) := by
        have := hop b [] (fun c d h1 h2 h3 h4 => by
          have hc : c ∈ b := List.mem_of_getElem? h1
          rw [BLK_W c (i2 c hc)] at h3
          cases h3) (by have := lay_blank (r := []) (ts := []) (p := l.length) i2 Lay.nil; rw [List.append_nil] at this; exact this)
        rw [List.append_nil] at this
        exact this
      have hlb : lim (l ++ b).length = true := lim_le (by simp; omega)
      have hpl : (placed xs ps).length < 1000 := by
        have := (all_show hx hpm).2.2.2.2
        omega
      have hrep := repr_ok hx hpm hm
      walk_at "zs"
      clear hr2
      refine ⟨by simp [rangeD]; omega, ?_⟩
      refine turns_e (fun j acc e => ∃ a7 : Option O, acc = placed (xs.take j) (ps.take j) ∧
        e = [some (.scr ns), some o3, some (.d (.list (xs.map tkD))), some (.d (.str (S l ++ S b))), none, none, some (.d (.list (ps.map fun p => .int (p : Nat)))), a7, none]) (by simp [rangeD]; omega) ?_ ⟨none, by simp [placed], rfl⟩ ?_
      · rintro j y acc e hy ⟨a7, rfl, rfl⟩
        have hj : j < xs.length := by
          have := (List.getElem?_eq_some_iff.mp hy).1
          simpa [rangeD] using this
        have hj2 : j < ps.length := by omega
        have ey : y = .int ((0 : Int) + (j : Nat)) := by
          unfold rangeD at hy
          rw [List.getElem?_map, List.getElem?_range (by rw [List.length_map]; exact hj)] at hy
          simpa using hy.symm
        subst ey
        have x1 : index (.list (xs.map tkD)) (.int ((0 : Int) + (j : Nat))) = some (tkD xs[j]) := index_list (by omega) (by
          rw [List.getElem?_map, show ((0 : Int) + (j : Nat)).toNat = j by omega, List.getElem?_eq_getElem hj]; rfl)
        have x2 : index (.list (ps.map fun p => PyData.int (p : Nat))) (.int ((0 : Int) + (j : Nat))) = some (.int (ps[j] : Nat)) := index_list (by omega) (by
          rw [List.getElem?_map, show ((0 : Int) + (j : Nat)).toNat = j by omega, List.getElem?_eq_getElem hj2]; rfl)
        refine ⟨_, rfl, ?_⟩
        walk_at "zs"
        refine ⟨_, ?_, rfl⟩
        rw [List.take_succ, List.take_succ, List.getElem?_eq_getElem hj, List.getElem?_eq_getElem hj2]
        exact (placed_snoc (by rw [List.length_take, List.length_take]; omega)).symm
      · rintro ys e ⟨a7, rfl, rfl⟩
        have e1 : (rangeD 0 (xs.map tkD).length).length = xs.length := by simp [rangeD]
        rw [e1, List.take_length, ← hps, List.take_length]
        rw [S_app]
        walk_at "zs"
        refine tokens_ok hlb hpl hlay ?_
        walk_at "zs"
        have dt : decide ((PyData.list (placed xs ps)).shown = (PyData.list (placed xs ps)).shown) = true := decide_eq_true rfl
        refine ifF (by show (!(decide _)) = false; rw [dt]; rfl) ?_
        have l4 : (placed xs ps).length < 16777216 := by omega
        walk_at "zs"
        refine tokens_ok hlb hpl hlay ?_
        walk_at "zs"
        rw [dt]
theorem yes : ∀ ns : List Int, ns.length ≤ 63 → ∃ e, run g.T 10 13 [.scr ns] = .ok (.d (.bool true)) e := fun ns _ => by
  have h := law_ok ns
  unfold Does at h
  show ∃ e, run T 10 13 [.scr ns] = _
  cases q : run T 10 13 [.scr ns] with
  | ok r e =>
    rw [q] at h
    have h : r = .d (.bool true) := h
    exact ⟨e, by rw [h]⟩
  | ex x e => rw [q] at h; exact h.elim
  | bad => rw [q] at h; exact h.elim
end L84
open PySem PySem.W PyProof.Rows in
set_option maxRecDepth 100000 in
set_option maxHeartbeats 0 in
theorem PySem.Challenge.cw_bytebridge_k84_tokens_of_a_text_holds : PySem.Challenge.rw_bytebridge_k84_tokens_of_a_text.Holds := by
  w_on; o_law; k_head; (case hw => w_witness2)
  k_fill
  refine Z.walk_all (l := PySem.Challenge.rw_bytebridge_k84_tokens_of_a_text) (n := 10) (k := 13) (g := L84.g) (d := L84.d_law) (x := "_law_script") rfl (by decide) rfl ⟨rfl, by decide, by decide⟩ (fun w h Y => PySem.W.kIn_of Y) rfl rfl rfl ?F L84.yes
  case F =>
    intro w mg h KX G
    refine Z.txt_mk ?c ?b ?t
    case c => exact ⟨by walk_at "glb_s", by walk_at "glb_i", by walk_at "glb_s", by walk_at "glb_s", by walk_at "glb_i", by walk_at "glb_s", by walk_at "glb_s", trivial⟩
    case b => exact ⟨by walk_at "none_k", by walk_at "none_k", by walk_at "none_k", by walk_at "none_k", by walk_at "none_k", by walk_at "none_k", by walk_at "none_k", by walk_at "none_k", by walk_at "none_k", trivial⟩
    case t => exact ⟨L84.i__law_tape (by walk_at "def_k"), L84.i__law_draw (by walk_at "def_k"), L84.i__law_spaced (by walk_at "def_k"), L84.i_is_one_of (by walk_at "def_k"), L84.i_sign_at (by walk_at "def_k"), L84.i_run_at (by walk_at "def_k"), L84.i_hexadecimal (by walk_at "def_k"), L84.i_decimal (by walk_at "def_k"), L84.i_number_at (by walk_at "def_k"), L84.i_symbol_at (by walk_at "def_k"), L84.i_tokens_of (by walk_at "def_k"), L84.i__law_numeral (by walk_at "def_k"), L84.i__law_token (by walk_at "def_k"), L84.i_law (by walk_at "def_k"), trivial⟩
