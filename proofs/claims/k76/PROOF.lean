import PyProof.Rows.All
import Wide.All
import OpenK.AllK
import Wide.FinOn
import PyProof.P3Statements
import PyProof.EqLayable
import HandS.ExcField
import HandS.Head3
import HandS.HeadHook4
import HandS.HeadWalk
import HandS.Lambda
import HandS.Words
import KE.KNestM
import KE.KStateDown
import HandS.ForMost
import HandS.ForExc
import HandS.ExcCtx
import HandS.Walk
import HandS.TupMul
import HandS.TupAny
import HandS.Style
import HandS.Gcd
import HandS.WideBits
import HandS.Flow
import HandS.Deep
import KE.DataMinMax
import HandS.SortInts
import HandS.TupSets
import HandS.Conv
import HandS.IsInst
import HandS.Set
import HandS.Flt
import HandS.SetFor
import HandS.Strs
import KE.KRevSl
import HandS.Zip
import KE.GoesMore
import KE.GoesEnum
import HandS.Hot
import HandS.HotCalls
import KE.KExcIs
import HandS.Defaults
import HandS.ExcInit
import HandS.NestedK
import PySem.Challenge.RW_toldquiet_k76_dots_of_long_stretches

set_option Elab.async false
set_option autoImplicit false
set_option linter.all false
/-! TI0: a small language of trees: expressions and statements over values without addresses, and what they come to. -/
namespace TI
open PySem

abbrev D := PyData
instance : Inhabited PyData := ⟨.none⟩

/-- a name's slot: nothing yet; a value that never changes; a list that this name alone holds; such a list of the caller's -/
inductive Slot where
  | emp | val (d : D) | own (xs : List D) | io (xs : List D) | valx (d : D) | valy (d : D)
  deriving Inhabited
abbrev En := List Slot
/-- how a result is held: for good; a new list that nobody holds; a list that a name holds; for good, its object known in full -/
inductive Fl where
  | val | fr | br (i : Nat) | xt | x1
  deriving DecidableEq
def Fl.isBr : Fl → Bool
  | .br _ => true
  | _ => false
inductive Out (α : Type) where
  | ok (a : α) (e : En)
  | exc (c : Nat) (d : D) (e : En)
  | stuck
@[reducible] def Out.bind {α β : Type} (x : Out α) (f : α → En → Out β) : Out β := match x with
  | .ok a e => f a e
  | .exc c d e => .exc c d e
  | .stuck => .stuck

inductive BinO where | add | sub | mul | fdiv | mod | pow | shl
  deriving DecidableEq
inductive CmpO where | eq | ne | lt | le | gt | ge | is | isnot | isin | notin
  deriving DecidableEq
/-- built-ins by their name -/
inductive BI where
  | len | sum | max1 | max2 | max3 | min2 | int1 | tuple1 | list1 | sorted1 | sortedset | all1 | gcd | listR | tupleR
  deriving DecidableEq
/-- methods that change nothing -/
inductive MT where | index | bitlen | join
  deriving DecidableEq
/-- classes that isinstance is asked of -/
inductive TyN where | int | bool | str | tuple | list | dict
  deriving DecidableEq
/-- what an evaluation is for: its value; its truth; its items -/
inductive Md where | v | t | i
  deriving DecidableEq

inductive IE where
  | nil | cons (h t : IE)
  | var (i : Nat) | glob (i : Nat) | lit (d : D) | ioarg (i : Nat)
  | bin (o : BinO) (a b : IE) | neg (a : IE)
  | andE (a b : IE) | orE (a b : IE) | notE (a : IE) | ite (t a b : IE)
  | cmp (o : CmpO) (a b : IE) | chain (o o' : CmpO) (a b c : IE)
  | tup (es : IE) | lst (es : IE) | tmul (es k : IE)
  | ix (a b : IE) | slice (a lo hi : IE) | rev (a : IE)
  | call (f : Nat) (es : IE) | bi (b : BI) (es : IE) | mt (m : MT) (o : IE) (es : IE)
  | pop (i : Nat) | popAt (i : Nat) (k : IE)
  | isi (a : IE) (ty : TyN)
  | comp (tg it ifs elt : IE) (own : List Nat)
  | range1 (a : IE) | range2 (a b : IE) | enumr (a : IE) | zipp (a b : IE)
  | told (names : List (Nat × Str)) (e : IE)
  | tup1 (a : IE) (i : Nat) | ix1 (i : Nat) | tupx (a : IE)

inductive IS where
  | nil | cons (h t : IS)
  | expr (e : IE) | set (i : Nat) (e : IE) | par (i j : Nat) (a b : IE) | par3 (i j k : Nat) (a b c : IE) | unpack (tg e : IE)
  | setix (i : Nat) (k v : IE) | setsl (i : Nat) (lo hi v : IE)
  | app (i : Nat) (e : IE) | ext (i : Nat) (e : IE)
  | ret (e : IE) | retN | ite (t : IE) (a b : IS) | forr (tg it : IE) (body : IS) | whil (t : IE) (body : IS)
  | raise (c : Nat) (e : IE) | pass | brk | cont

/-! ### values -/
def lim : Nat := 16777216
def small (i : Int) : Bool := decide (i.natAbs < 18446744073709551616)
def inR (i : Int) : Bool := decide (i.natAbs < 4611686018427387904)
def nn (i : Int) : Bool := decide (0 ≤ i) && decide (i.natAbs < 4611686018427387904)
def num : D → Option Int
  | .int i => some i
  | _ => none
def nums : List D → Option (List Int)
  | [] => some []
  | .int i :: r => (nums r).map (i :: ·)
  | _ :: _ => none
def bools : List D → Option (List Bool)
  | [] => some []
  | .bool i :: r => (bools r).map (i :: ·)
  | _ :: _ => none
def strsD : List D → Option (List Str)
  | [] => some []
  | .str i :: r => (strsD r).map (i :: ·)
  | _ :: _ => none
def flat : D → Bool
  | .none | .bool _ | .int _ | .str _ => true
  | _ => false
/-- the ints of a tuple of ints -/
def tupNums : D → Option (List Int)
  | .tuple xs => nums xs
  | _ => none
def tupsNums : List D → Option (List (List Int))
  | [] => some []
  | d :: r => (tupNums d).bind fun a => (tupsNums r).map (a :: ·)
def lexLt : List Int → List Int → Bool
  | [], [] => false
  | [], _ :: _ => true
  | _ :: _, [] => false
  | x :: xs, y :: ys => if x = y then lexLt xs ys else decide (x < y)
def insT (a : List Int) : List (List Int) → List (List Int)
  | [] => [a]
  | b :: r => if lexLt b a then b :: insT a r else a :: b :: r
def isortT : List (List Int) → List (List Int)
  | [] => []
  | a :: r => insT a (isortT r)
def binOp : BinO → D → D → Option D
  | .add, .int a, .int b => some (.int (a + b))
  | .add, .str a, .str b => if a.length + b.length ≤ lim then some (.str (a ++ b)) else none
  | .add, .tuple a, .tuple b => if a.length + b.length ≤ lim then some (.tuple (a ++ b)) else none
  | .add, .list a, .list b => if a.length + b.length ≤ lim then some (.list (a ++ b)) else none
  | .sub, .int a, .int b => some (.int (a - b))
  | .mul, .int a, .int b => if (small a || small b) = true then some (.int (a * b)) else none
  | .mul, .list a, .int b => if inR b = true ∧ a.length * b.toNat ≤ lim then some (.list (List.replicate b.toNat a).flatten) else none
  | .mul, .tuple a, .int b => if inR b = true ∧ a.length * b.toNat ≤ lim then some (.tuple (List.replicate b.toNat a).flatten) else none
  | .fdiv, .int a, .int b => if 0 < b ∧ b.natAbs < 1073741824 then some (.int (a / b)) else none
  | .mod, .int a, .int b => if 0 < b then some (.int (a % b)) else none
  | .pow, .int a, .int b => if 0 ≤ b ∧ b.natAbs ≤ 1000000 ∧ small a = true then some (.int (a ^ b.toNat)) else none
  | .shl, .int a, .int b => if 0 ≤ b ∧ b.natAbs ≤ 1000000 ∧ small a = true then some (.int (a * 2 ^ b.toNat)) else none
  | _, _, _ => none
/-- a list that is made is new -/
def newF : D → Fl
  | .list _ => .fr
  | _ => .val
def isNone : D → Bool
  | .none => true
  | _ => false
def mem (x : D) (xs : List D) : Bool := xs.any fun y => PyData.eqv y x
def cmpOp : CmpO → D → D → Option Bool
  | .eq, .str a, .str b => some (a == b)
  | .ne, .str a, .str b => some (!(a == b))
  | .eq, a, b => if (SeqAt.shaped a && SeqAt.shaped b) = true then some (PyData.eqv a b) else none
  | .ne, a, b => if (SeqAt.shaped a && SeqAt.shaped b) = true then some (!PyData.eqv a b) else none
  | .lt, .int a, .int b => some (decide (a < b))
  | .lt, .tuple xs, .tuple ys => (nums xs).bind fun a => (nums ys).map fun b => lexLt a b
  | .le, .int a, .int b => some (decide (a ≤ b))
  | .gt, .int a, .int b => some (decide (b < a))
  | .ge, .int a, .int b => some (decide (b ≤ a))
  | .is, a, .none => some (isNone a)
  | .isnot, a, .none => some (!isNone a)
  | .isin, x, .list xs => if (flat x && xs.all flat) = true ∨ (SeqAt.shaped x && SeqAt.shaped (.list xs)) = true then some (mem x xs) else none
  | .isin, x, .tuple xs => if (flat x && xs.all flat) = true then some (mem x xs) else none
  | .notin, x, .list xs => if (flat x && xs.all flat) = true ∨ (SeqAt.shaped x && SeqAt.shaped (.list xs)) = true then some (!mem x xs) else none
  | .notin, x, .tuple xs => if (flat x && xs.all flat) = true then some (!mem x xs) else none
  | _, _, _ => none
def truth : D → Option Bool
  | .none => some false
  | .bool b => some b
  | .int i => some (i != 0)
  | .str x => if x.length ≤ lim then some (x.length != 0) else none
  | .list xs => some (!xs.isEmpty)
  | .tuple xs => some (!xs.isEmpty)
  | .dict _ => none
/-- a place in a list of n, from either end -/
def place (n : Nat) (i : Int) : Option Nat := if 0 ≤ i then (if i < n then some i.toNat else none) else if -(n : Int) ≤ i then some (i + n).toNat else none
def itemAt (xs : List D) (i : Int) : Option D := (place xs.length i).bind fun j => xs[j]?
/-- where a slice begins or ends -/
def cutAt (n d : Nat) : Option Int → Nat
  | none => d
  | some v => if v < 0 then (max (v + (n : Int)) 0).toNat else min v.toNat n
def cut (xs : List D) (lo hi : Option Int) : List D := (xs.drop (cutAt xs.length 0 lo)).take (cutAt xs.length xs.length hi - cutAt xs.length 0 lo)
def optI : Option D → Option (Option Int)
  | none => some none
  | some (.int i) => some (some i)
  | _ => none
def maxL : List Int → Option Int
  | [] => none
  | a :: r => some (r.foldl (fun m x => if x > m then x else m) a)
def ins (a : Int) : List Int → List Int
  | [] => [a]
  | b :: r => if a ≤ b then a :: b :: r else b :: ins a r
def isort : List Int → List Int
  | [] => []
  | a :: r => ins a (isort r)
/-- .. each once -/
def insU (a : Int) : List Int → List Int
  | [] => [a]
  | b :: r => if a < b then a :: b :: r else if a = b then b :: r else b :: insU a r
def usort : List Int → List Int
  | [] => []
  | a :: r => insU a (usort r)
def bitlen (i : Int) : Int := (Builtin.Int.intBits i : Nat)
def rangeL (lo : Int) : Nat → List D
  | 0 => []
  | n + 1 => .int lo :: rangeL (lo + 1) n
def biOp : BI → List D → Option (D × Fl)
  | .len, [.list xs] => some (.int xs.length, .val)
  | .len, [.tuple xs] => some (.int xs.length, .val)
  | .len, [.str x] => if x.length ≤ lim then some (.int x.length, .val) else none
  | .sum, [.list xs] => (nums xs).map fun ns => (.int ns.sum, .val)
  | .sum, [.tuple xs] => (nums xs).map fun ns => (.int ns.sum, .val)
  | .max1, [.list xs] => (nums xs).bind fun ns => (maxL ns).map fun m => (.int m, .val)
  | .max1, [.tuple xs] => (nums xs).bind fun ns => (maxL ns).map fun m => (.int m, .val)
  | .max2, [.int a, .int b] => some (.int (if b > a then b else a), .val)
  | .max3, [.int a, .int b, .int c] => some (.int (if c > (if b > a then b else a) then c else (if b > a then b else a)), .val)
  | .min2, [.int a, .int b] => some (.int (if b < a then b else a), .val)
  | .int1, [.int a] => some (.int a, .val)
  | .int1, [.bool b] => some (.int (if b then 1 else 0), .val)
  | .tuple1, [.list xs] => some (.tuple xs, .val)
  | .tuple1, [.tuple xs] => some (.tuple xs, .val)
  | .list1, [.list xs] => some (.list xs, .fr)
  | .list1, [.tuple xs] => some (.list xs, .fr)
  | .sorted1, [.list xs] => (match nums xs with
    | some ns => some (.list ((isort ns).map .int), .fr)
    | none => (tupsNums xs).bind fun ts => if (decide (xs.length < 64) && (ts.all fun t => decide (t.length = (ts.headD []).length) && t.all nn) && decide (1 ≤ (ts.headD []).length)) = true then some (.list ((isortT ts).map fun t => .tuple (t.map .int)), .fr) else none)
  | .sortedset, [.list xs] => (nums xs).bind fun ns => if ns.length < 64 then some (.list ((usort ns).map .int), .fr) else none
  | .all1, [.list xs] => (bools xs).map fun bs => (.bool (bs.all id), .val)
  | .listR, [.int n] => if inR n = true ∧ n.toNat ≤ lim then some (.list (rangeL 0 n.toNat), .fr) else none
  | .tupleR, [.int n] => if inR n = true ∧ n.toNat ≤ lim then some (.tuple (rangeL 0 n.toNat), .val) else none
  | .gcd, [.int a, .int b] => some (.int (Nat.gcd a.natAbs b.natAbs : Nat), .val)
  | _, _ => none
def findEq (x : D) (xs : List D) : Option Nat := xs.findIdx? fun y => PyData.eqv y x
def joinS (sep : Str) : List Str → Str
  | [] => Str.empty
  | [a] => a
  | a :: r => a ++ sep ++ joinS sep r
def mtOp : MT → D → List D → Option D
  | .index, .list xs, [x] => if (flat x && xs.all flat) = true then (findEq x xs).map fun j => .int (j : Nat) else none
  | .index, .tuple xs, [x] => if (flat x && xs.all flat) = true then (findEq x xs).map fun j => .int (j : Nat) else none
  | .bitlen, .int i, [] => some (.int (bitlen i))
  | _, _, _ => none
/-- a tuple's method wants the object known in full -/
def mtOk (k : MT) (x : D × Fl) : Bool := match k, x with
  | .index, (.tuple _, .xt) => true
  | .index, (.list _, _) => true
  | .bitlen, (.int _, _) => true
  | _, _ => false
def isTy : TyN → D → Bool
  | .int, .int _ => true
  | .int, .bool _ => true
  | .bool, .bool _ => true
  | .str, .str _ => true
  | .tuple, .tuple _ => true
  | .list, .list _ => true
  | _, _ => false
def isDict : D → Bool
  | .dict _ => true
  | _ => false
def itemsOf : D → Option (List D)
  | .list xs => some xs
  | .tuple xs => some xs
  | _ => none
def enumL (k : Nat) : List D → List D
  | [] => []
  | x :: r => .tuple [.int (k : Nat), x] :: enumL (k + 1) r
def zipL : List D → List D → List D
  | x :: r, y :: s => .tuple [x, y] :: zipL r s
  | _, _ => []
/-- no list is changed by it -/
def pure : IE → Bool
  | .nil | .var _ | .glob _ | .lit _ | .ix1 _ => true
  | .ioarg _ | .pop _ | .popAt _ _ | .told _ _ => false
  | .cons a b | .tmul a b | .bin _ a b | .andE a b | .orE a b | .cmp _ a b | .ix a b | .range2 a b | .zipp a b => pure a && pure b
  | .neg a | .notE a | .tup a | .lst a | .rev a | .call _ a | .bi _ a | .isi a _ | .range1 a | .enumr a | .tup1 a _ | .tupx a => pure a
  | .mt _ a b => pure a && pure b
  | .ite a b c | .slice a b c => pure a && pure b && pure c
  | .chain _ _ a b c => pure a && pure b && pure c
  | .comp a b c d _ => pure a && pure b && pure c && pure d
/-- none of these names' lists is lent -/
def noIo (e : En) (l : List Nat) : Bool := l.all fun i => match e[i]? with
  | some (.io _) => false
  | _ => true
def setAt (e : En) (i : Nat) (s : Slot) : En := e.set i s
/-- a target takes a value -/
def bindT : IE → D → En → Option En
  | .var i, d, e => if i < e.length then (match e[i]? with
      | some (.io _) => none
      | _ => some (e.set i (.val d))) else none
  | .tup es, .tuple xs, e => bindTs es xs e
  | _, _, _ => none
where bindTs : IE → List D → En → Option En
  | .nil, [], e => some e
  | .cons t r, x :: xs, e => (bindT t x e).bind fun e1 => bindTs r xs e1
  | _, _, _ => none
def wipeE (e : En) : List Nat → En
  | [] => e
  | v :: vs => (wipeE e vs).set v .emp
/-- behind a comprehension its own names are what they were -/
def backE (e0 e : En) : List Nat → En
  | [] => e
  | v :: vs => (backE e0 e vs).set v (e0.getD v .emp)
/-- a result that is kept: a list that a name holds is then held for good -/
def keepR : Out (D × Fl) → Out D
  | .ok (_, .br i) e => (match e[i]? with
      | some (.own xs) => .ok (.list xs) (e.set i (.val (.list xs)))
      | _ => .stuck)
  | .ok (d, _) e => .ok d e
  | .exc c d e => .exc c d e
  | .stuck => .stuck
/-- .. as an argument -/
def keepX : Out (D × Fl) → Out Slot
  | .ok (d, .xt) e => .ok (.valx d) e
  | .ok (d, .x1) e => .ok (.valy d) e
  | r => (keepR r).bind fun d e => .ok (.val d) e
/-- its truth -/
def asB (r : Out (D × Fl)) : Out Bool := r.bind fun x e => match truth x.1 with
  | some b => .ok b e
  | none => .stuck
def liftO {α : Type} (x : Option α) (e : En) : Out α := match x with
  | some a => .ok a e
  | none => .stuck
def noExc {α : Type} : Out α → Out α
  | .exc _ _ _ => .stuck
  | x => x
/-- over items: f gives the new item, or none where a test says no -/
def compL (f : D → En → Out (Option D)) : List D → En → Out (List D)
  | [], e => .ok [] e
  | x :: r, e => (f x e).bind fun y e1 => (compL f r e1).bind fun ys e2 => .ok (y.toList ++ ys) e2

/-! ### expressions -/
/-- what a def does with its arguments' slots: its answer; its slots behind it -/
abbrev Fun := Nat → List Slot → Out (D × Fl)
section
variable (Φ : Fun) (C : List D)
/-- a written list of slots after a call: what the callee left in the lists that were lent -/
def backIo : IE → List Slot → En → Option En
  | .cons (.ioarg i) t, s :: ss, e => (match s, e[i]? with
      | .io ys, some (.own _) => backIo t ss (e.set i (.own ys))
      | .io ys, some (.io _) => backIo t ss (e.set i (.io ys))
      | _, _ => none)
  | .cons _ t, _ :: ss, e => backIo t ss e
  | .nil, _, e => some e
  | _, _, _ => none
def hasIo : IE → Bool
  | .cons (.ioarg _) _ => true
  | .cons _ t => hasIo t
  | _ => false
/-- whether a list of arguments lends the name i's list -/
def ioIn (i : Nat) : IE → Bool
  | .cons (.ioarg j) t => decide (i = j) || ioIn i t
  | .cons _ t => ioIn i t
  | _ => false
/-- whether a name holds a list -/
def isHeld (e : En) (i : Nat) : Bool := match e[i]? with
  | some (.own _) => true
  | some (.io _) => true
  | _ => false
/-- the list that a name holds; how its slot is written anew -/
def heldAt (e : En) (i : Nat) : Option (List D × (List D → Slot)) := match e[i]? with
  | some (.own xs) => some (xs, .own)
  | some (.io xs) => some (xs, .io)
  | _ => none
/-- an item is taken out of a name's list -/
def popR (e : En) (i : Nat) (x : D) : Out (D × Fl) := match x, heldAt e i with
  | .int j, some (xs, mk) => (match inR j, place xs.length j with
    | true, some p => (match xs[p]? with
      | some d => .ok (d, .val) (e.set i (mk (xs.eraseIdx p)))
      | none => .stuck)
    | _, _ => .stuck)
  | _, _ => .stuck
def sliceOk : D → Bool
  | .list _ => true
  | .tuple _ => true
  | _ => false
/-- two operands: the first one held by a name wants a second one that changes no list -/
def okTwo (x : D × Fl) (b : IE) : Bool := !x.2.isBr || pure b
/-- a slice's end -/
def optE (a : IE) (r : Out (D × Fl)) (e : En) : Out (Option Int) := match a with
  | .nil => .ok none e
  | _ => r.bind fun x e1 => match x.1 with
      | .int i => .ok (some i) e1
      | _ => .stuck
/-- a comprehension's test, if it has one -/
def tstE (a : IE) (r : Out (D × Fl)) (e : En) : Out Bool := match a with
  | .nil => .ok true e
  | _ => asB r
mutual
def evalE : IE → Md → En → Out (D × Fl)
  | .var i, _, e => (match e[i]? with
      | some (.val d) => .ok (d, .val) e
      | some (.valx d) => .ok (d, .xt) e
      | some (.valy d) => .ok (d, .x1) e
      | some (.own xs) => .ok (.list xs, .br i) e
      | some (.io xs) => .ok (.list xs, .br i) e
      | _ => .stuck)
  | .glob i, _, e => (match C[i]? with
      | some d => .ok (d, .val) e
      | none => .stuck)
  | .lit d, _, e => .ok (d, .val) e
  | .bin o a b, _, e => (evalE a .v e).bind fun x e1 => match okTwo x b with
      | true => (evalE b .v e1).bind fun y e2 => match binOp o x.1 y.1 with
        | some d => .ok (d, newF d) e2
        | none => .stuck
      | false => .stuck
  | .neg a, _, e => (evalE a .v e).bind fun x e1 => match x.1 with
      | .int i => .ok (.int (-i), .val) e1
      | _ => .stuck
  | .andE a b, .t, e => (asB (evalE a .t e)).bind fun c e1 => match c with
      | true => (asB (evalE b .t e1)).bind fun c2 e2 => .ok (.bool c2, .val) e2
      | false => .ok (.bool false, .val) e1
  | .orE a b, .t, e => (asB (evalE a .t e)).bind fun c e1 => match c with
      | true => .ok (.bool true, .val) e1
      | false => (asB (evalE b .t e1)).bind fun c2 e2 => .ok (.bool c2, .val) e2
  | .andE a b, .v, e => (evalE a .v e).bind fun x e1 => match x.1 with
      | .bool true => evalE b .v e1
      | .bool false => .ok (.bool false, .val) e1
      | _ => .stuck
  | .orE a b, .v, e => (evalE a .v e).bind fun x e1 => match x.1 with
      | .bool true => .ok (.bool true, .val) e1
      | .bool false => evalE b .v e1
      | _ => .stuck
  | .notE a, .t, e => (asB (evalE a .t e)).bind fun b e1 => .ok (.bool (!b), .val) e1
  | .notE a, .v, e => (asB (evalE a .v e)).bind fun b e1 => .ok (.bool (!b), .val) e1
  | .ite t a b, _, e => (asB (evalE t .t e)).bind fun c e1 => match c with
      | true => (keepR (evalE a .v e1)).bind fun d e2 => .ok (d, .val) e2
      | false => (keepR (evalE b .v e1)).bind fun d e2 => .ok (d, .val) e2
  | .cmp o a b, _, e => (evalE a .v e).bind fun x e1 => match okTwo x b with
      | true => (evalE b .v e1).bind fun y e2 => match cmpOp o x.1 y.1 with
        | some d => .ok (.bool d, .val) e2
        | none => .stuck
      | false => .stuck
  | .chain o o' a b c, _, e => (evalE a .v e).bind fun x e1 => match okTwo x b with
      | true => (evalE b .v e1).bind fun y e2 => match cmpOp o x.1 y.1 with
        | some true => (match okTwo y c with
          | true => (evalE c .v e2).bind fun z e3 => match cmpOp o' y.1 z.1 with
            | some d => .ok (.bool d, .val) e3
            | none => .stuck
          | false => .stuck)
        | some false => .ok (.bool false, .val) e2
        | none => .stuck
      | false => .stuck
  | .tup es, _, e => (evalK es e).bind fun ds e1 => if ds.length ≤ lim then .ok (.tuple ds, .val) e1 else .stuck
  | .lst es, _, e => (evalK es e).bind fun ds e1 => if ds.length ≤ lim then .ok (.list ds, .fr) e1 else .stuck
  | .tmul es k, _, e => (evalK es e).bind fun ds e1 => if ds.length ≤ lim then (evalE k .v e1).bind fun x e2 => (match x.1 with
      | .int n => if inR n = true ∧ ds.length * n.toNat ≤ lim then .ok (.tuple (List.replicate n.toNat ds).flatten, .xt) e2 else .stuck
      | _ => .stuck) else .stuck
  | .ix a b, _, e => (evalE a .v e).bind fun x e1 => match okTwo x b with
      | true => (evalE b .v e1).bind fun y e2 => match x.1, y.1 with
        | .list xs, .int i => (match itemAt xs i with
          | some d => .ok (d, .val) e2
          | none => .stuck)
        | .tuple xs, .int i => (match itemAt xs i with
          | some d => .ok (d, .val) e2
          | none => .stuck)
        | _, _ => .stuck
      | false => .stuck
  | .slice a lo hi, _, e => (evalE a .v e).bind fun x e1 => match okTwo x lo && okTwo x hi with
      | true => (optE lo (evalE lo .v e1) e1).bind fun l e2 => (optE hi (evalE hi .v e2) e2).bind fun h e3 => match x.1 with
        | .list xs => .ok (.list (cut xs l h), .fr) e3
        | .tuple xs => .ok (.tuple (cut xs l h), .val) e3
        | _ => .stuck
      | false => .stuck
  | .rev a, _, e => (evalE a .v e).bind fun x e1 => match x.1 with
      | .list xs => .ok (.list xs.reverse, .fr) e1
      | .tuple xs => .ok (.tuple xs.reverse, .val) e1
      | _ => .stuck
  | .call f es, _, e => (evalA es e).bind fun ss e1 => match Φ f ss with
      | .ok x e2 => (match backIo es e2 e1, x.2.isBr with
        | some e3, false => .ok x e3
        | _, _ => .stuck)
      | .exc c d _ => (match hasIo es with
        | true => .stuck
        | false => .exc c d e1)
      | .stuck => .stuck
  | .bi b es, _, e => (evalB es e).bind fun ds e1 => match biOp b ds with
      | some x => .ok x e1
      | none => .stuck
  | .mt k o es, _, e => (evalE o .v e).bind fun x e1 => match okTwo x es && mtOk k x with
      | true => (evalB es e1).bind fun ds e2 => match mtOp k x.1 ds with
        | some d => .ok (d, .val) e2
        | none => .stuck
      | false => .stuck
  | .pop i, _, e => (match e[i]? with
      | some (.own xs) => (match xs.getLast? with
        | some d => .ok (d, .val) (e.set i (.own xs.dropLast))
        | none => .stuck)
      | some (.io xs) => (match xs.getLast? with
        | some d => .ok (d, .val) (e.set i (.io xs.dropLast))
        | none => .stuck)
      | _ => .stuck)
  | .popAt i k, _, e => (match isHeld e i with
    | true => (evalE k .v e).bind fun x e1 => popR e1 i x.1
    | false => .stuck)
  | .isi a ty, _, e => (evalE a .v e).bind fun x e1 => match isDict x.1 with
      | true => .stuck
      | false => .ok (.bool (isTy ty x.1), .val) e1
  | .comp tg it ifs elt own, _, e => (evalE it .i e).bind fun x e1 => match itemsOf x.1 with
      | some xs => if xs.length ≤ lim ∧ noIo e1 own = true then
          (noExc (compL (fun d e2 => match bindT tg d e2 with
            | some e3 => (tstE ifs (evalE ifs .t e3) e3).bind fun b e4 => match b with
              | true => (keepR (evalE elt .v e4)).bind fun y e5 => .ok (some y) (wipeE e5 own)
              | false => .ok none (wipeE e4 own)
            | none => .stuck) xs (wipeE e1 own))).bind fun ys e6 => .ok (.list ys, .fr) (backE e1 e6 own)
          else .stuck
      | none => .stuck
  | .range1 a, .i, e => (evalE a .v e).bind fun x e1 => match x.1 with
      | .int n => if inR n = true then .ok (.list (rangeL 0 n.toNat), .val) e1 else .stuck
      | _ => .stuck
  | .range2 a b, .i, e => (evalE a .v e).bind fun x e1 => (evalE b .v e1).bind fun y e2 => match x.1, y.1 with
      | .int i, .int j => if (inR i && inR j) = true then .ok (.list (rangeL i (j - i).toNat), .val) e2 else .stuck
      | _, _ => .stuck
  | .enumr a, .i, e => (evalE a .v e).bind fun x e1 => match itemsOf x.1 with
      | some xs => .ok (.list (enumL 0 xs), x.2) e1
      | none => .stuck
  | .zipp a b, .i, e => (evalE a .v e).bind fun x e1 => match okTwo x b with
      | true => (evalE b .v e1).bind fun y e2 => match x.1, y.1 with
        | .list xs, .list ys => .ok (.list (zipL xs ys), if x.2.isBr || y.2.isBr then .br 0 else .val) e2
        | .tuple xs, .tuple ys => .ok (.list (zipL xs ys), .val) e2
        | _, _ => .stuck
      | false => .stuck
  | .told names a, _, e => (match keepR (evalE a .v e) with
      | .ok d e1 => .ok (.tuple [.str "told", d], .val) e1
      | .exc c d e1 => (match names.lookup c with
        | some z => .ok (.tuple [.str z, d], .val) e1
        | none => .stuck)
      | .stuck => .stuck)
  | .tup1 a i, _, e => (keepR (evalE a .v e)).bind fun d e1 => match e1[i]? with
      | some (.valx x) => .ok (.tuple [d, x], .x1) e1
      | _ => .stuck
  | .ix1 i, _, e => (match e[i]? with
      | some (.valy (.tuple [_, x])) => .ok (x, .xt) e
      | _ => .stuck)
  | .tupx a, _, e => (evalE a .v e).bind fun x e1 => match x.1 with
      | .list xs => .ok (.tuple xs, .xt) e1
      | _ => .stuck
  | _, _, _ => .stuck
termination_by structural x => x
/-- displays: each is kept -/
def evalK : IE → En → Out (List D)
  | .nil, e => .ok [] e
  | .cons a r, e => (keepR (evalE a .v e)).bind fun d e1 => (evalK r e1).bind fun ds e2 => .ok (d :: ds) e2
  | _, _ => .stuck
termination_by structural x => x
/-- built-ins' arguments: read on the spot; one that a name holds wants that the rest changes no list -/
def evalB : IE → En → Out (List D)
  | .nil, e => .ok [] e
  | .cons a r, e => (evalE a .v e).bind fun x e1 => match okTwo x r with
      | true => (evalB r e1).bind fun ds e2 => .ok (x.1 :: ds) e2
      | false => .stuck
  | _, _ => .stuck
termination_by structural x => x
/-- a def's arguments -/
def evalA : IE → En → Out (List Slot)
  | .nil, e => .ok [] e
  | .cons a r, e => (match a with
      | .ioarg i => (match isHeld e i with
        | true => (evalA r e).bind fun ss e1 => (match e1[i]?, ioIn i r with
          | some (.own xs), false => .ok (.io xs :: ss) e1
          | some (.io xs), false => .ok (.io xs :: ss) e1
          | _, _ => .stuck)
        | false => .stuck)
      | a => (keepX (evalE a .v e)).bind fun s e1 => (evalA r e1).bind fun ss e2 => .ok (s :: ss) e2)
  | _, _ => .stuck
termination_by structural x => x
end
/-! ### statements -/
inductive SOut where
  | next (e : En) | ret (x : D × Fl) (e : En) | brk (e : En) | cont (e : En) | exc (c : Nat) (d : D) (e : En) | stuck
/-- a result that goes to a name: new lists stay new -/
def holdR : Out (D × Fl) → Out (D × Fl)
  | .ok (d, .fr) e => .ok (d, .fr) e
  | .ok (d, .xt) e => .ok (d, .xt) e
  | .ok (d, .x1) e => .ok (d, .x1) e
  | r => (keepR r).bind fun d e => .ok (d, .val) e
/-- what a loop walks: a name's list is given up -/
def keepI (it : IE) (r : Out (D × Fl)) : Out D := match it, r with
  | .var _, r => keepR r
  | _, .ok (_, .br _) _ => .stuck
  | _, r => keepR r
/-- the slot that holds a result -/
def slotOf : D × Fl → Slot
  | (.list xs, .fr) => .own xs
  | (d, .xt) => .valx d
  | (d, .x1) => .valy d
  | (d, _) => .val d
/-- a name's slot takes a result; one that is lent isn't given up -/
def putS (e : En) (i : Nat) (s : Slot) : Option En := if i < e.length then (match e[i]? with
  | some (.io _) => none
  | _ => some (e.set i s)) else none
/-- what a return hands back: a list that the name alone holds is new for the caller -/
def retR : Out (D × Fl) → Out (D × Fl)
  | .ok (d, .br i) e => (match e[i]? with
    | some (.own _) => .ok (d, .fr) (e.set i .emp)
    | _ => .stuck)
  | r => r
def Out.bindS {α : Type} (x : Out α) (f : α → En → SOut) : SOut := match x with
  | .ok a e => f a e
  | .exc c d e => .exc c d e
  | .stuck => .stuck
def Out.s (x : Out (D × Fl)) (f : D × Fl → En → SOut) : SOut := match x with
  | .ok a e => f a e
  | .exc c d e => .exc c d e
  | .stuck => .stuck
def optS (x : Option En) : SOut := match x with
  | some e => .next e
  | none => .stuck
/-- the list of a name is changed -/
def modL (e : En) (i : Nat) (f : List D → Option (List D)) : Option En := match e[i]? with
  | some (.own xs) => (f xs).map fun ys => e.set i (.own ys)
  | some (.io xs) => (f xs).map fun ys => e.set i (.io ys)
  | _ => none
def forL (f : D → En → SOut) : List D → En → SOut
  | [], e => .next e
  | x :: r, e => (match f x e with
    | .next e1 => forL f r e1
    | .cont e1 => forL f r e1
    | .brk e1 => .next e1
    | .ret x e1 => .ret x e1
    | .exc c d e1 => .exc c d e1
    | .stuck => .stuck)
def whileL (t : En → Out Bool) (f : En → SOut) : Nat → En → SOut
  | 0, _ => .stuck
  | n + 1, e => (t e).bindS fun c e1 => match c with
    | false => .next e1
    | true => (match f e1 with
      | .next e2 => whileL t f n e2
      | .cont e2 => whileL t f n e2
      | .brk e2 => .next e2
      | .ret x e2 => .ret x e2
      | .exc c d e2 => .exc c d e2
      | .stuck => .stuck)
def spliceL (xs : List D) (lo hi : Option Int) (ys : List D) : Option (List D) :=
  if cutAt xs.length 0 lo ≤ cutAt xs.length xs.length hi ∧ xs.length + ys.length ≤ lim then some (xs.take (cutAt xs.length 0 lo) ++ ys ++ xs.drop (cutAt xs.length xs.length hi)) else none
variable (L : Nat)
def execS : IS → En → SOut
  | .nil, e => .next e
  | .cons a r, e => (match execS a e with
    | .next e1 => execS r e1
    | o => o)
  | .expr a, e => (evalE Φ C a .v e).s fun _ e1 => .next e1
  | .set i a, e => (holdR (evalE Φ C a .v e)).s fun x e1 => optS (putS e1 i (slotOf x))
  | .par i j a b, e => (holdR (evalE Φ C a .v e)).s fun x e1 => (holdR (evalE Φ C b .v e1)).s fun y e2 =>
      optS ((putS e2 i (slotOf x)).bind fun e3 => putS e3 j (slotOf y))
  | .par3 i j k a b c, e => (holdR (evalE Φ C a .v e)).s fun x e1 => (holdR (evalE Φ C b .v e1)).s fun y e2 => (holdR (evalE Φ C c .v e2)).s fun z e3 =>
      (match x.2, y.2 with
        | .val, .val => optS ((putS e3 i (.val x.1)).bind fun e4 => (putS e4 j (.val y.1)).bind fun e5 => putS e5 k (slotOf z))
        | _, _ => .stuck)
  | .unpack tg a, e => (evalE Φ C a .v e).s fun x e1 => match tg with
      | .tup _ => optS (bindT tg x.1 e1)
      | _ => .stuck
  | .setix i k v, e => (keepR (evalE Φ C v .v e)).bindS fun d e1 => match isHeld e1 i with
      | true => (evalE Φ C k .v e1).s fun y e2 => (match y.1 with
        | .int j => optS (modL e2 i fun xs => (place xs.length j).map fun p => xs.set p d)
        | _ => .stuck)
      | false => .stuck
  | .setsl i lo hi v, e => (evalE Φ C v .v e).s fun x e1 => match x.1, isHeld e1 i with
      | .tuple ys, true => (optE lo (evalE Φ C lo .v e1) e1).bindS fun l e2 => (optE hi (evalE Φ C hi .v e2) e2).bindS fun h e3 => optS (modL e3 i fun xs => spliceL xs l h ys)
      | _, _ => .stuck
  | .app i a, e => (match isHeld e i with
      | true => (keepR (evalE Φ C a .v e)).bindS fun d e1 => optS (modL e1 i fun xs => if xs.length < lim then some (xs ++ [d]) else none)
      | false => .stuck)
  | .ext i a, e => (match isHeld e i with
      | true => (evalE Φ C a .v e).s fun x e1 => (match itemsOf x.1 with
        | some ys => optS (modL e1 i fun xs => if xs.length + ys.length ≤ lim then some (xs ++ ys) else none)
        | none => .stuck)
      | false => .stuck)
  | .ret a, e => (retR (evalE Φ C a .v e)).s fun x e1 => .ret x e1
  | .retN, e => .ret (.none, .val) e
  | .ite t a b, e => (asB (evalE Φ C t .t e)).bindS fun c e1 => match c with
      | true => execS a e1
      | false => execS b e1
  | .forr tg it body, e => (keepI it (evalE Φ C it .i e)).bindS fun d e1 => match itemsOf d with
      | some xs => if xs.length ≤ lim then forL (fun x e2 => match bindT tg x e2 with
          | some e3 => execS body e3
          | none => .stuck) xs e1 else .stuck
      | none => .stuck
  | .whil t body, e => whileL (fun e1 => asB (evalE Φ C t .t e1)) (fun e1 => execS body e1) L e
  | .raise c a, e => (keepR (evalE Φ C a .v e)).bindS fun d e1 => .exc c d e1
  | .pass, e => .next e
  | .brk, e => .brk e
  | .cont, e => .cont e
termination_by structural x => x
end
/-! ### defs -/
/-- what is told of the arguments' slots behind a call: the lists that were lent -/
def outs : List Slot → En → En
  | [], _ => []
  | .io _ :: r, s :: e => s :: outs r e
  | _ :: r, _ :: e => .emp :: outs r e
  | _ :: r, [] => .emp :: outs r []
structure FD where
  np : Nat
  ns : Nat
  body : IS
section
variable (P : List FD) (C : List D) (L : Nat)
def runF : Nat → Fun
  | 0, _, _ => .stuck
  | n + 1, f, ss => match P[f]? with
    | some fd => if ss.length = fd.np then (match execS (runF n) C L fd.body (ss ++ List.replicate (fd.ns - fd.np) .emp) with
      | .next e => .ok (.none, .val) (outs ss e)
      | .ret x e => (match x.2.isBr with
        | true => .stuck
        | false => .ok x (outs ss e))
      | .exc c d e => .exc c d (outs ss e)
      | _ => .stuck) else .stuck
    | none => .stuck
end
end TI

set_option Elab.async false
set_option autoImplicit false
set_option maxRecDepth 100000
set_option maxHeartbeats 4000000
set_option linter.all false
/-! TD: what a law's text is, and what is looked at behind its top. -/
namespace TI
open PySem PySem.Spec PyProof.Rows L2 LamX
/-- the names of a law's top: defs, constants, exceptions; whether lambdas may be made -/
structure Nm where
  fn : List Str
  cn : List Str
  xn : List Str
  lam : Bool
  tn : List (Nat × Str)
def bltN : List Str := ["len", "sum", "max", "min", "int", "tuple", "list", "sorted", "all", "set", "range", "enumerate", "zip", "isinstance", "bool", "str", "dict"]
/-- (text, isinstance(e, class)) -/
def isPair (n : Str) (p1 p2 p3 p4 p5 p6 : Pos) : Expr := .Tuple [.Constant (.str n) 0 p1, .Call (.Name "isinstance" p2) [.Name "e" p3, .Name n p4] [] p5] 0 p6
def toldSuite (n1 n2 n3 : Str) (cs : Scope) (q : Nat → Pos) : List Stmt := [
  .Assign [.Name "some" (q 0)] (.List [isPair n1 (q 1) (q 2) (q 3) (q 4) (q 5) (q 6), isPair n2 (q 7) (q 8) (q 9) (q 10) (q 11) (q 12)] (q 13)) (q 14),
  .Assign [.Name "some" (q 15)] (.BinOp (.Name "some" (q 16)) .Add (.List [isPair n3 (q 17) (q 18) (q 19) (q 20) (q 21) (q 22)] (q 23)) (q 24)) (q 25),
  .Return (some (.Tuple [.Call (.Attribute (.Constant (.str " ") 0 (q 26)) "join" (q 27)) [.ListComp (.Name "word" (q 28)) [⟨.Tuple [.Name "word" (q 29), .Name "is_one" (q 30)] 0 (q 31), .Name "some" (q 32), [.Name "is_one" (q 33)], 0⟩] cs (q 34)] [] (q 35),
    .Attribute (.Name "e" (q 36)) "what" (q 37)] 0 (q 38))) (q 39)]
def toldBody (n1 n2 n3 : Str) (cs : Scope) (q : Nat → Pos) : List Stmt := [
  .Try [.Return (some (.Tuple [.Constant (.str "told") 0 (q 40), .Call (.Name "call" (q 41)) [] [] (q 42)] 0 (q 43))) (q 44)]
    [.ExceptHandler (some (.Name "Refused" (q 45))) (some "e") (toldSuite n1 n2 n3 cs q) (q 46)] [] [] (q 47)]
/-- the words of the list of pairs that are so -/
def saidBy : List (Str × Bool) → List Str
  | [] => []
  | (n, b) :: r => if b then n :: saidBy r else saidBy r
/-- __init__(self, what): self.what = what -/
def initBody (p1 p2 p3 p4 : Pos) : List Stmt := [.Assign [.Attribute (.Name "self" p1) "what" p2] (.Name "what" p3) p4]
structure DefT where
  name : Str
  N : List Str
  params : Arguments
  body : List Stmt
  scope : Scope
  lam : Bool
/-- a law's text -/
structure LawT where
  fs : List DefT
  pr : List FD
  cn : List (Str × D)
  xn : List Str
  tn : List (Nat × Str)
  cal : Nat
  ini : Pos × Pos × Pos × Pos
  inA : Arguments
  inS : Scope
  pg : Arguments
  sg : Scope
  cs : Scope
  n1 : Str
  n2 : Str
  n3 : Str
  q : Nat → Pos
namespace LawT
variable (L : LawT)
def w : Nm := ⟨L.fs.map DefT.name, L.cn.map (·.1), L.xn, true, L.tn⟩
def C : List D := L.cn.map (·.2)
def toRow (t : DefT) : He.DefD := ⟨(t.name, none), t.name, t.name, t.params, t.body, t.scope, [], []⟩
def iniRow : He.DefD := ⟨("Refused", some "__init__"), "__init__", "Refused.__init__", L.inA, initBody L.ini.1 L.ini.2.1 L.ini.2.2.1 L.ini.2.2.2, L.inS, [], []⟩
def tldRow : He.DefD := ⟨("_law_told_by", none), "_law_told_by", "_law_told_by", L.pg, toldBody L.n1 L.n2 L.n3 L.cs L.q, L.sg, [], []⟩
def rows : List He.DefD := L.iniRow :: L.tldRow :: L.fs.map toRow
def lams : List He.Defn := (L.fs.filter (·.lam)).map fun t => (t.name, none)
def cls (K : PySem.W.Frag) (k : Nat) : Addr := He.ga K (L.xn.getD k Str.empty)
end LawT
def ref1 (o : Obj) : List Addr := match o.data with
  | .dict es _ => es.toList.flatMap fun e => He.refV e.val
  | _ => []
def ref2 (o : Obj) : List Addr := match o.data with
  | .func fd => He.refV fd.code
  | .cls cd => [cd.ns]
  | _ => []
def refsOf (g : Addr → Option Obj) (r : Obj → List Addr) (as : List Addr) : List Addr := as.flatMap fun a => match g a with
  | some o => r o
  | none => []
def asM (g : Addr → Option Obj) : List Addr :=
  mainGlobals :: (refsOf g ref1 [mainGlobals] ++ (refsOf g ref2 (refsOf g ref1 [mainGlobals]) ++ (refsOf g ref1 (refsOf g ref2 (refsOf g ref1 [mainGlobals])) ++ refsOf g ref2 (refsOf g ref1 (refsOf g ref2 (refsOf g ref1 [mainGlobals]))))))
def oexB (K : PySem.W.Frag) (C : Addr) : Bool := match K.lookup C with
  | some ⟨.type t, _, .cls cd, sl⟩ => decide (t = "type") && (match cd.mro, sl.toList with
    | .ref C' :: bm, [_, _, _, _, some (.builtin n), _] => C' == C && decide (n = "ValueError.__new__") && !cd.hasDel && cd.hasDict && PySem.HandSPX.refsVE bm
    | _, _ => false)
  | _ => false
def eqInts : List Value → List D → Bool
  | [], [] => true
  | .int j _ :: r, .int i :: s => decide (j = i) && eqInts r s
  | _, _ => false
def relD (K : PySem.W.Frag) (u : Value) (d : D) : Bool := match d, u with
  | .int i, .int j _ => decide (j = i)
  | .tuple ds, .ref a => (match K.lookup a with
    | some ⟨.type t, _, .seq its _, _⟩ => decide (t = "tuple") && (decide (its.size ≤ sizeLine) && eqInts its.toList ds)
    | _ => false)
  | _, _ => false
/-- an exception's class -/
def excB (K : PySem.W.Frag) (z : Str) : Bool := (He.Fa.glo z).ok K && (oexB K (He.ga K z) && (He.eqO (PySem.W.findIn K (.ref (He.ga K z)) "__setattr__") (some (some (.builtin "object.__setattr__"))) &&
  (decide (PySem.W.subIn K (.ref (He.ga K z)) (.type "BaseException") = some true) && (decide (PySem.W.typeIn K (.ref (He.ga K z)) = some (.type "type")) && (PySem.W.keepIn K (.ref (He.ga K z)) &&
  (He.eqO (PySem.W.findIn K (.ref (He.ga K z)) "__init__") (some (some (.ref (He.ma K (He.ga K "Refused") "__init__")))) && He.eqO (PySem.W.findIn K (.ref (He.ga K z)) "what") (some none)))))))
def kitB (K : PySem.W.Frag) (C B : Addr) : Bool := decide (PySem.W.kitOne K (.ref C) (.ref B) = some true)
/-- .. caught and told as z -/
def xfcB (L : LawT) (K : PySem.W.Frag) (C : Addr) (z : Str) : Bool := decide (PySem.W.exmOne K (.ref C) (.ref (He.ga K "Refused")) = some true) && ((PySem.W.kitOne K (.ref C) (.ref (He.ga K L.n1))).isSome && ((PySem.W.kitOne K (.ref C) (.ref (He.ga K L.n2))).isSome && ((PySem.W.kitOne K (.ref C) (.ref (He.ga K L.n3))).isSome &&
  ((PySem.W.clsIn K C).isSome && (xfB K C && (He.eqO (PySem.W.findIn K (.ref C) "__class__") (some (some (.builtin "object.__class__"))) && (He.eqO (PySem.W.specialIn K (.builtin "object.__class__") "__get__") (some (some (.builtin "getset_descriptor.__get__"))) &&
  (decide (PySem.W.takesIn K (.builtin "object.__class__") = some true) && (decide (PySem.W.mroIn K C (.type "object") = some true) && (He.eqO (PySem.W.findIn K (.ref C) "what") (some none) &&
  decide (Txt.join " " (saidBy [(L.n1, kitB K C (He.ga K L.n1)), (L.n2, kitB K C (He.ga K L.n2)), (L.n3, kitB K C (He.ga K L.n3))]) = z)))))))))))
/-- all that is asked of the part K of the heap -/
def headB (L : LawT) (K : PySem.W.Frag) : Bool :=
  (L.rows.all fun d => d.ok K) && ((L.fs.all fun t => (He.Fa.glo t.name).ok K) && ((He.Fa.glo "_law_told_by").ok K && ((L.xn.all fun z => excB K z) && ((excB K "Refused") && ((L.tn.all fun p => xfcB L K (L.cls K p.1) p.2) &&
  ((L.cn.all fun p => match PySem.W.nsIn K mainGlobals p.1 with
    | some (some u) => relD K u p.2
    | _ => false) && ((bltN.all fun x => (He.Fa.free x).ok K) && (He.eqO (PySem.W.nsIn K mainGlobals "gcd") (some (some (.builtin "math.gcd"))) &&
  ((K.all fun q => !(q.2.cls == .type "list") || q.2.slots.isEmpty) && (decide (PySem.W.typeIn K (.ref (He.ma K (He.ga K "Refused") "__init__")) = some (.type "function")) &&
  ((He.Fa.glo L.n1).ok K && ((He.Fa.glo L.n2).ok K && ((He.Fa.glo L.n3).ok K && ((L.lams.all fun p => PySem.W.codeHdIn K (He.cT K p).1 (He.cT K p).2 && (K.lookup (He.cT K p).2).isNone) &&
  (L.lams.all fun p => L.lams.all fun p' => decide (p = p') || !((He.cT K p).2 == (He.cT K p').2))))))))))))))))
def emptyAll (L : LawT) (g : Addr → Option Obj) (K : PySem.W.Frag) : Bool := L.lams.all fun p => match g (He.cT K p).2 with
  | some o => He.emptyTab o
  | none => false
abbrev ObL : Type := Bool × List He.FnW
def obsL (L : LawT) (g : Addr → Option Obj) : ObL := (headB L (He.frG g (asM g)) && emptyAll L g (He.frG g (asM g)), L.rows.map fun d => He.fnW (He.frG g (asM g)) d.at_)
end TI

set_option Elab.async false
set_option autoImplicit false
set_option maxRecDepth 100000
set_option maxHeartbeats 0
set_option linter.all false
/-! TP: the law's defs as trees. -/
namespace TI
open PySem
def tnames : List (Nat × Str) := [(0, ""), (1, ""), (2, ""), (3, "BadMany"), (4, ""), (5, ""), (6, ""), (7, "BadRoom"), (8, ""), (9, "BadSize"), (10, "")]
/-- 0 is_number thing -/
def b_is_number : IS := (.cons (.ret (.andE (.isi (.var 0) .int) (.notE (.isi (.var 0) .bool)))) .nil)
/-- 1 is_between thing low high -/
def b_is_between : IS := (.cons (.ret (.andE (.call 0 (.cons (.var 0) .nil)) (.chain .le .le (.var 1) (.var 0) (.var 2)))) .nil)
/-- 2 is_tuple_of thing low high -/
def b_is_tuple_of : IS := (.cons (.ret (.andE (.isi (.var 0) .tuple) (.chain .le .le (.var 1) (.bi .len (.cons (.var 0) .nil)) (.var 2)))) .nil)
/-- 3 check_many many low high -/
def b_check_many : IS := (.cons (.ite (.notE (.call 1 (.cons (.var 0) (.cons (.var 1) (.cons (.var 2) .nil))))) (.cons (.raise 3 (.lit (.int 0))) .nil) .nil) .nil)
/-- 4 lowest p q by -/
def b_lowest : IS := (.cons (.set 2 (.bi .gcd (.cons (.var 0) (.cons (.var 1) .nil)))) (.cons (.ret (.tup (.cons (.bin .fdiv (.var 0) (.var 2)) (.cons (.bin .fdiv (.var 1) (.var 2)) .nil)))) .nil))
/-- 5 made_k thing -/
def b_made_k : IS := (.cons (.ite (.notE (.call 1 (.cons (.var 0) (.cons (.lit (.int 1)) (.cons (.glob 0) .nil))))) (.cons (.raise 0 (.lit (.int 0))) .nil) .nil) (.cons (.ret (.var 0)) .nil))
/-- 6 wrong_row thing at -/
def b_wrong_row : IS := (.cons (.ite (.notE (.call 2 (.cons (.var 0) (.cons (.lit (.int 0)) (.cons (.glob 1) .nil))))) (.cons (.ret (.neg (.lit (.int 1)))) .nil) .nil) (.cons (.forr (.var 1) (.range1 (.bi .len (.cons (.var 0) .nil))) (.cons (.ite (.notE (.call 1 (.cons (.ix (.var 0) (.var 1)) (.cons (.lit (.int 1)) (.cons (.glob 2) .nil))))) (.cons (.ret (.var 1)) .nil) .nil) .nil)) (.cons (.ret (.lit .none)) .nil)))
/-- 7 made_row thing wrong -/
def b_made_row : IS := (.cons (.set 1 (.call 6 (.cons (.var 0) .nil))) (.cons (.ite (.cmp .isnot (.var 1) (.lit .none)) (.cons (.raise 1 (.var 1)) .nil) .nil) (.cons (.ret (.var 0)) .nil)))
/-- 8 mean row -/
def b_mean : IS := (.cons (.ite (.cmp .eq (.call 7 (.cons (.var 0) .nil)) (.tup .nil)) (.cons (.raise 2 (.lit (.int 0))) .nil) .nil) (.cons (.ret (.call 4 (.cons (.bi .sum (.cons (.var 0) .nil)) (.cons (.bi .len (.cons (.var 0) .nil)) .nil)))) .nil))
/-- 9 density_of row -/
def b_density_of : IS := (.cons (.ret (.ite (.cmp .eq (.var 0) (.tup .nil)) (.tup (.cons (.lit (.int 0)) (.cons (.lit (.int 1)) .nil))) (.call 4 (.cons (.bi .len (.cons (.var 0) .nil)) (.cons (.bi .sum (.cons (.var 0) .nil)) .nil))))) .nil)
/-- 10 density row -/
def b_density : IS := (.cons (.ret (.call 9 (.cons (.call 7 (.cons (.var 0) .nil)) .nil))) .nil)
/-- 11 is_rising things one other -/
def b_is_rising : IS := (.cons (.ret (.bi .all1 (.cons (.comp (.tup (.cons (.var 1) (.cons (.var 2) .nil))) (.zipp (.var 0) (.slice (.var 0) (.lit (.int 1)) .nil)) .nil (.cmp .lt (.var 1) (.var 2)) [1, 2]) .nil))) .nil)
/-- 12 are_rooms thing rooms room -/
def b_are_rooms : IS := (.cons (.ite (.orE (.notE (.isi (.var 0) .tuple)) (.cmp .gt (.bi .len (.cons (.var 0) .nil)) (.var 1))) (.cons (.ret (.lit (.bool false))) .nil) .nil) (.cons (.ret (.andE (.bi .all1 (.cons (.comp (.var 2) (.var 0) .nil (.call 1 (.cons (.var 2) (.cons (.lit (.int 0)) (.cons (.bin .sub (.var 1) (.lit (.int 1))) .nil)))) [2]) .nil)) (.call 11 (.cons (.var 0) .nil)))) .nil))
/-- 13 is_move thing letters rooms -/
def b_is_move : IS := (.cons (.ite (.orE (.notE (.call 2 (.cons (.var 0) (.cons (.lit (.int 3)) (.cons (.lit (.int 3)) .nil))))) (.notE (.call 1 (.cons (.ix (.var 0) (.lit (.int 1))) (.cons (.lit (.int 0)) (.cons (.bin .sub (.var 1) (.lit (.int 1))) .nil)))))) (.cons (.ret (.lit (.bool false))) .nil) .nil) (.cons (.ret (.andE (.call 1 (.cons (.ix (.var 0) (.lit (.int 0))) (.cons (.lit (.int 0)) (.cons (.bin .sub (.var 2) (.lit (.int 1))) .nil)))) (.call 1 (.cons (.ix (.var 0) (.lit (.int 2))) (.cons (.lit (.int 0)) (.cons (.bin .sub (.var 2) (.lit (.int 1))) .nil)))))) .nil))
/-- 14 are_moves thing letters rooms move -/
def b_are_moves : IS := (.cons (.ite (.orE (.notE (.isi (.var 0) .tuple)) (.cmp .gt (.bi .len (.cons (.var 0) .nil)) (.bin .mul (.bin .mul (.var 1) (.var 2)) (.var 2)))) (.cons (.ret (.lit (.bool false))) .nil) .nil) (.cons (.ret (.andE (.bi .all1 (.cons (.comp (.var 3) (.var 0) .nil (.call 13 (.cons (.var 3) (.cons (.var 1) (.cons (.var 2) .nil)))) [3]) .nil)) (.call 11 (.cons (.var 0) .nil)))) .nil))
/-- 15 wrong_machine thing letters rooms good -/
def b_wrong_machine : IS := (.cons (.ite (.notE (.call 2 (.cons (.var 0) (.cons (.lit (.int 5)) (.cons (.lit (.int 5)) .nil))))) (.cons (.ret (.neg (.lit (.int 1)))) .nil) .nil) (.cons (.ite (.orE (.notE (.call 1 (.cons (.ix (.var 0) (.lit (.int 0))) (.cons (.lit (.int 1)) (.cons (.glob 3) .nil))))) (.notE (.call 1 (.cons (.ix (.var 0) (.lit (.int 1))) (.cons (.lit (.int 0)) (.cons (.glob 4) .nil)))))) (.cons (.ret (.neg (.lit (.int 1)))) .nil) .nil) (.cons (.par 1 2 (.ix (.var 0) (.lit (.int 0))) (.ix (.var 0) (.lit (.int 1)))) (.cons (.set 3 (.lst (.cons (.call 12 (.cons (.ix (.var 0) (.lit (.int 2))) (.cons (.var 2) .nil))) (.cons (.call 12 (.cons (.ix (.var 0) (.lit (.int 3))) (.cons (.var 2) .nil))) (.cons (.call 14 (.cons (.ix (.var 0) (.lit (.int 4))) (.cons (.var 1) (.cons (.var 2) .nil)))) .nil))))) (.cons (.ret (.ite (.bi .all1 (.cons (.var 3) .nil)) (.lit .none) (.mt .index (.var 3) (.cons (.lit (.bool false)) .nil)))) .nil)))))
/-- 16 is_machine thing -/
def b_is_machine : IS := (.cons (.ret (.cmp .is (.call 15 (.cons (.var 0) .nil)) (.lit .none))) .nil)
/-- 17 flip machine letters rooms starts ends moves room letter to -/
def b_flip : IS := (.cons (.unpack (.tup (.cons (.var 1) (.cons (.var 2) (.cons (.var 3) (.cons (.var 4) (.cons (.var 5) .nil)))))) (.var 0)) (.cons (.ret (.tup (.cons (.var 1) (.cons (.var 2) (.cons (.var 4) (.cons (.var 3) (.cons (.bi .tuple1 (.cons (.bi .sorted1 (.cons (.comp (.tup (.cons (.var 6) (.cons (.var 7) (.cons (.var 8) .nil)))) (.var 5) .nil (.tup (.cons (.var 8) (.cons (.var 7) (.cons (.var 6) .nil)))) [6, 7, 8]) .nil)) .nil)) .nil))))))) .nil))
/-- 18 come_to moves starts found at room letter to -/
def b_come_to : IS := (.cons (.par 2 3 (.bi .list1 (.cons (.var 1) .nil)) (.lit (.int 0))) (.cons (.whil (.cmp .lt (.var 3) (.bi .len (.cons (.var 2) .nil))) (.cons (.ext 2 (.bi .sortedset (.cons (.comp (.tup (.cons (.var 4) (.cons (.var 5) (.cons (.var 6) .nil)))) (.var 0) (.andE (.cmp .eq (.var 4) (.ix (.var 2) (.var 3))) (.cmp .notin (.var 6) (.var 2))) (.var 6) [4, 5, 6]) .nil))) (.cons (.set 3 (.bin .add (.var 3) (.lit (.int 1)))) .nil))) (.cons (.ret (.bi .sorted1 (.cons (.var 2) .nil))) .nil)))
/-- 19 trim machine letters rooms starts ends moves ahead back kept new_starts new_ends inner new_moves room move letter to -/
def b_trim : IS := (.cons (.unpack (.tup (.cons (.var 1) (.cons (.var 2) (.cons (.var 3) (.cons (.var 4) (.cons (.var 5) .nil)))))) (.var 0)) (.cons (.par 6 7 (.call 18 (.cons (.var 5) (.cons (.var 3) .nil))) (.call 18 (.cons (.ix (.call 17 (.cons (.var 0) .nil)) (.lit (.int 4))) (.cons (.var 4) .nil)))) (.cons (.set 8 (.comp (.var 13) (.var 6) (.cmp .isin (.var 13) (.var 7)) (.var 13) [13])) (.cons (.set 9 (.bi .tuple1 (.cons (.comp (.var 13) (.var 3) (.cmp .isin (.var 13) (.var 8)) (.mt .index (.var 8) (.cons (.var 13) .nil)) [13]) .nil))) (.cons (.set 10 (.bi .tuple1 (.cons (.comp (.var 13) (.var 4) (.cmp .isin (.var 13) (.var 8)) (.mt .index (.var 8) (.cons (.var 13) .nil)) [13]) .nil))) (.cons (.set 11 (.comp (.var 14) (.var 5) (.andE (.cmp .isin (.ix (.var 14) (.lit (.int 0))) (.var 8)) (.cmp .isin (.ix (.var 14) (.lit (.int 2))) (.var 8))) (.var 14) [14])) (.cons (.set 12 (.bi .tuple1 (.cons (.comp (.tup (.cons (.var 13) (.cons (.var 15) (.cons (.var 16) .nil)))) (.var 11) .nil (.tup (.cons (.mt .index (.var 8) (.cons (.var 13) .nil)) (.cons (.var 15) (.cons (.mt .index (.var 8) (.cons (.var 16) .nil)) .nil)))) [13, 15, 16]) .nil))) (.cons (.ret (.tup (.cons (.var 1) (.cons (.bi .len (.cons (.var 8) .nil)) (.cons (.var 9) (.cons (.var 10) (.cons (.var 12) .nil))))))) .nil))))))))
/-- 20 is_scheme_machine thing -/
def b_is_scheme_machine : IS := (.cons (.ret (.andE (.call 16 (.cons (.var 0) .nil)) (.andE (.cmp .le (.ix (.var 0) (.lit (.int 1))) (.glob 5)) (.cmp .eq (.call 19 (.cons (.var 0) .nil)) (.var 0))))) .nil)
/-- 21 wrong_scheme thing -/
def b_wrong_scheme : IS := (.cons (.ite (.notE (.call 2 (.cons (.var 0) (.cons (.lit (.int 2)) (.cons (.lit (.int 2)) .nil))))) (.cons (.ret (.neg (.lit (.int 1)))) .nil) .nil) (.cons (.ite (.notE (.call 20 (.cons (.ix (.var 0) (.lit (.int 0))) .nil))) (.cons (.ret (.lit (.int 0))) .nil) .nil) (.cons (.ret (.ite (.call 12 (.cons (.ix (.var 0) (.lit (.int 1))) (.cons (.ix (.ix (.var 0) (.lit (.int 0))) (.lit (.int 1))) .nil))) (.lit .none) (.lit (.int 1)))) .nil)))
/-- 22 made_scheme thing wrong -/
def b_made_scheme : IS := (.cons (.set 1 (.call 21 (.cons (.var 0) .nil))) (.cons (.ite (.cmp .isnot (.var 1) (.lit .none)) (.cons (.raise 10 (.var 1)) .nil) .nil) (.cons (.ret (.var 0)) .nil)))
/-- 23 made_ts thing at t -/
def b_made_ts : IS := (.cons (.ite (.notE (.call 2 (.cons (.var 0) (.cons (.lit (.int 1)) (.cons (.glob 6) .nil))))) (.cons (.raise 4 (.neg (.lit (.int 1)))) .nil) .nil) (.cons (.forr (.tup (.cons (.var 1) (.cons (.var 2) .nil))) (.enumr (.var 0)) (.cons (.ite (.notE (.call 1 (.cons (.var 2) (.cons (.lit (.int 1)) (.cons (.glob 7) .nil))))) (.cons (.raise 4 (.var 1)) .nil) .nil) .nil)) (.cons (.ret (.var 0)) .nil)))
/-- 24 spare_of k ts -/
def b_spare_of : IS := (.cons (.ret (.bin .sub (.bin .add (.var 0) (.bi .max1 (.cons (.bin .add (.var 1) (.tup (.cons (.lit (.int 0)) .nil))) .nil))) (.bin .mul (.lit (.int 2)) (.bi .sum (.cons (.var 1) .nil))))) .nil)
/-- 25 spare k ts -/
def b_spare : IS := (.cons (.ret (.call 24 (.cons (.call 5 (.cons (.var 0) .nil)) (.cons (.call 23 (.cons (.var 1) .nil)) .nil)))) .nil)
/-- 26 middle_of ts -/
def b_middle_of : IS := (.cons (.ret (.mt .index (.var 0) (.cons (.bi .max1 (.cons (.var 0) .nil)) .nil))) .nil)
/-- 27 intervals k ts left found taken at t -/
def b_intervals : IS := (.cons (.set 2 (.call 25 (.cons (.var 0) (.cons (.var 1) .nil)))) (.cons (.ite (.cmp .lt (.var 2) (.lit (.int 0))) (.cons (.raise 5 (.neg (.var 2))) .nil) .nil) (.cons (.par 3 4 (.lst .nil) (.lit (.int 0))) (.cons (.forr (.tup (.cons (.var 5) (.cons (.var 6) .nil))) (.enumr (.var 1)) (.cons (.ite (.cmp .eq (.var 5) (.call 26 (.cons (.var 1) .nil))) (.cons (.app 3 (.tup .nil)) .nil) (.cons (.app 3 (.tup (.cons (.bin .add (.var 4) (.lit (.int 1))) (.cons (.bin .add (.var 4) (.var 6)) .nil)))) (.cons (.set 4 (.bin .add (.var 4) (.var 6))) .nil))) .nil)) (.cons (.setix 3 (.call 26 (.cons (.var 1) .nil)) (.tup (.cons (.bin .add (.var 4) (.lit (.int 1))) (.cons (.bin .sub (.var 0) (.var 4)) .nil)))) (.cons (.ret (.bi .tuple1 (.cons (.var 3) .nil))) .nil))))))
/-- 28 thin_rows k ts found at first last -/
def b_thin_rows : IS := (.cons (.set 2 (.lst .nil)) (.cons (.forr (.tup (.cons (.var 3) (.cons (.tup (.cons (.var 4) (.cons (.var 5) .nil))) .nil))) (.enumr (.call 27 (.cons (.var 0) (.cons (.var 1) .nil)))) (.cons (.app 2 (.ite (.cmp .eq (.var 3) (.call 26 (.cons (.var 1) .nil))) (.tup (.cons (.var 5) .nil)) (.tup (.cons (.bin .sub (.bin .add (.var 0) (.lit (.int 1))) (.var 4)) (.cons (.var 5) .nil))))) .nil)) (.cons (.ret (.bi .tuple1 (.cons (.var 2) .nil))) .nil)))
/-- 29 price_of k rooms -/
def b_price_of : IS := (.cons (.ret (.ite (.cmp .lt (.var 1) (.lit (.int 2))) (.tup (.cons (.lit (.int 0)) (.cons (.lit (.int 1)) .nil))) (.call 4 (.cons (.lit (.int 2)) (.cons (.bin .add (.var 0) (.bin .fdiv (.var 0) (.bin .sub (.bin .mul (.lit (.int 2)) (.var 1)) (.lit (.int 3))))) .nil))))) .nil)
/-- 30 price k rooms -/
def b_price : IS := (.cons (.expr (.call 5 (.cons (.var 0) .nil))) (.cons (.expr (.call 3 (.cons (.var 1) (.cons (.lit (.int 0)) (.cons (.glob 8) .nil))))) (.cons (.ret (.call 29 (.cons (.var 0) (.cons (.var 1) .nil)))) .nil)))
/-- 31 long_price rooms -/
def b_long_price : IS := (.cons (.expr (.call 3 (.cons (.var 0) (.cons (.lit (.int 0)) (.cons (.glob 8) .nil))))) (.cons (.ret (.ite (.cmp .lt (.var 0) (.lit (.int 2))) (.tup (.cons (.lit (.int 0)) (.cons (.lit (.int 1)) .nil))) (.call 4 (.cons (.bin .sub (.bin .mul (.lit (.int 2)) (.var 0)) (.lit (.int 3))) (.cons (.bin .sub (.var 0) (.lit (.int 1))) .nil))))) .nil))
/-- 32 size_of_code rooms -/
def b_size_of_code : IS := (.cons (.ret (.ite (.cmp .lt (.var 0) (.lit (.int 2))) (.lit (.int 0)) (.bin .add (.lit (.int 1)) (.mt .bitlen (.bin .sub (.var 0) (.lit (.int 2))) .nil)))) .nil)
/-- 33 sure_from_of rooms -/
def b_sure_from_of : IS := (.cons (.ret (.ite (.cmp .lt (.var 0) (.lit (.int 2))) (.lit (.int 1)) (.bin .mul (.bin .sub (.bin .mul (.lit (.int 2)) (.var 0)) (.lit (.int 3))) (.bin .add (.call 32 (.cons (.var 0) .nil)) (.lit (.int 3)))))) .nil)
/-- 34 check_thin k rooms -/
def b_check_thin : IS := (.cons (.ite (.cmp .lt (.var 0) (.call 33 (.cons (.var 1) .nil))) (.cons (.raise 8 (.call 33 (.cons (.var 1) .nil))) .nil) .nil) .nil)
/-- 35 check_plan k rooms -/
def b_check_plan : IS := (.cons (.expr (.call 5 (.cons (.var 0) .nil))) (.cons (.expr (.call 3 (.cons (.var 1) (.cons (.lit (.int 0)) (.cons (.glob 9) .nil))))) (.cons (.expr (.call 34 (.cons (.var 0) (.cons (.var 1) .nil)))) .nil)))
/-- 36 plan_of k rooms many found at row -/
def b_plan_of : IS := (.cons (.ite (.cmp .lt (.var 1) (.lit (.int 2))) (.cons (.ret (.tup .nil)) .nil) .nil) (.cons (.set 2 (.bin .sub (.var 1) (.lit (.int 1)))) (.cons (.set 3 (.lst .nil)) (.cons (.forr (.tup (.cons (.var 4) (.cons (.var 5) .nil))) (.enumr (.call 28 (.cons (.var 0) (.cons (.tmul (.cons (.bin .fdiv (.var 0) (.bin .sub (.bin .mul (.lit (.int 2)) (.var 2)) (.lit (.int 1)))) .nil) (.var 2)) .nil)))) (.cons (.ite (.cmp .eq (.var 4) (.lit (.int 0))) (.cons (.app 3 (.tup (.cons (.lit (.str "middle")) (.cons (.bin .sub (.bin .sub (.ix (.var 5) (.lit (.int 0))) (.call 32 (.cons (.var 1) .nil))) (.lit (.int 2))) (.cons (.ix (.var 5) (.lit (.int 0))) .nil))))) .nil) (.cons (.app 3 (.tup (.cons (.lit (.str "side")) (.cons (.ix (.var 5) (.lit (.int 1))) (.cons (.ix (.var 5) (.lit (.int 0))) .nil))))) .nil)) .nil)) (.cons (.ret (.bi .tuple1 (.cons (.var 3) .nil))) .nil)))))
/-- 37 plan k rooms -/
def b_plan : IS := (.cons (.expr (.call 35 (.cons (.var 0) (.cons (.var 1) .nil)))) (.cons (.ret (.call 36 (.cons (.var 0) (.cons (.var 1) .nil)))) .nil))
/-- 38 code_of rooms room found left turn -/
def b_code_of : IS := (.cons (.par 2 3 (.lst (.cons (.lit (.int 1)) .nil)) (.bin .sub (.var 1) (.lit (.int 1)))) (.cons (.forr (.var 4) (.range1 (.bin .sub (.call 32 (.cons (.var 0) .nil)) (.lit (.int 1)))) (.cons (.app 2 (.bin .mod (.var 3) (.lit (.int 2)))) (.cons (.set 3 (.bin .fdiv (.var 3) (.lit (.int 2)))) .nil))) (.cons (.ret (.bi .tuple1 (.cons (.var 2) .nil))) .nil)))
/-- 39 parts_of entry kind near far -/
def b_parts_of : IS := (.cons (.unpack (.tup (.cons (.var 1) (.cons (.var 2) (.cons (.var 3) .nil)))) (.var 0)) (.cons (.ite (.cmp .eq (.var 1) (.lit (.str "middle"))) (.cons (.ret (.tup (.cons (.tup (.cons (.var 2) .nil)) (.cons (.tup (.cons (.var 3) .nil)) (.cons (.tup (.cons (.var 2) .nil)) .nil))))) .nil) .nil) (.cons (.ret (.tup (.cons (.tup (.cons (.var 2) .nil)) (.cons (.tup (.cons (.var 3) (.cons (.var 2) .nil))) (.cons (.tup .nil) .nil))))) .nil)))
/-- 40 shortest_of k rooms found entry ahead unit behind whole units -/
def b_shortest_of : IS := (.cons (.set 2 (.bin .mul (.lit (.int 3)) (.var 0))) (.cons (.forr (.var 3) (.call 36 (.cons (.var 0) (.cons (.var 1) .nil))) (.cons (.unpack (.tup (.cons (.var 4) (.cons (.var 5) (.cons (.var 6) .nil)))) (.call 39 (.cons (.var 3) .nil))) (.cons (.set 7 (.bi .sum (.cons (.var 5) .nil))) (.cons (.set 8 (.bi .max2 (.cons (.lit (.int 1)) (.cons (.bin .fdiv (.bin .add (.bin .sub (.var 7) (.lit (.int 4))) (.lit (.int 2))) (.lit (.int 3))) .nil)))) (.cons (.set 2 (.bi .max2 (.cons (.var 2) (.cons (.bin .add (.bin .add (.bin .sub (.bin .mul (.lit (.int 2)) (.call 32 (.cons (.var 1) .nil))) (.lit (.int 1))) (.bi .sum (.cons (.bin .add (.var 4) (.var 6)) .nil))) (.bin .mul (.var 8) (.bin .sub (.var 7) (.glob 11)))) .nil)))) .nil))))) (.cons (.ret (.var 2)) .nil)))
/-- 41 gaps_of entry whole ahead unit behind left units less found turn by -/
def b_gaps_of : IS := (.cons (.unpack (.tup (.cons (.var 2) (.cons (.var 3) (.cons (.var 4) .nil)))) (.call 39 (.cons (.var 0) .nil))) (.cons (.set 5 (.bin .sub (.var 1) (.bi .sum (.cons (.bin .add (.var 2) (.var 4)) .nil)))) (.cons (.set 6 (.bi .max2 (.cons (.lit (.int 1)) (.cons (.bin .fdiv (.bin .sub (.bin .add (.var 5) (.bi .sum (.cons (.var 3) .nil))) (.lit (.int 1))) (.bi .sum (.cons (.var 3) .nil))) .nil)))) (.cons (.set 7 (.bin .sub (.bin .mul (.var 6) (.bi .sum (.cons (.var 3) .nil))) (.var 5))) (.cons (.set 8 (.bi .list1 (.cons (.var 2) .nil))) (.cons (.forr (.var 9) (.range1 (.var 6)) (.cons (.set 10 (.bi .min2 (.cons (.glob 11) (.cons (.var 7) .nil)))) (.cons (.set 7 (.bin .sub (.var 7) (.var 10))) (.cons (.app 8 (.bin .sub (.ix (.var 3) (.lit (.int 0))) (.var 10))) (.cons (.ext 8 (.slice (.var 3) (.lit (.int 1)) .nil)) .nil))))) (.cons (.ext 8 (.var 4)) (.cons (.ret (.var 8)) .nil))))))))
/-- 42 stretch_of k rooms room size told cells place gap -/
def b_stretch_of : IS := (.cons (.ite (.cmp .eq (.var 2) (.lit (.int 0))) (.cons (.ret (.tmul (.cons (.lit (.int 0)) .nil) (.var 3))) .nil) .nil) (.cons (.set 4 (.call 38 (.cons (.var 1) (.cons (.var 2) .nil)))) (.cons (.par 5 6 (.bin .mul (.lst (.cons (.lit (.int 0)) .nil)) (.var 3)) (.bin .sub (.bi .len (.cons (.var 4) .nil)) (.lit (.int 1)))) (.cons (.forr (.var 7) (.call 41 (.cons (.ix (.call 36 (.cons (.var 0) (.cons (.var 1) .nil))) (.bin .sub (.var 2) (.lit (.int 1)))) (.cons (.bin .add (.bin .sub (.var 3) (.bin .mul (.lit (.int 2)) (.bi .len (.cons (.var 4) .nil)))) (.lit (.int 1))) .nil))) (.cons (.setix 5 (.var 6) (.lit (.int 1))) (.cons (.set 6 (.bin .add (.var 6) (.var 7))) .nil))) (.cons (.setsl 5 .nil (.bi .len (.cons (.var 4) .nil)) (.rev (.var 4))) (.cons (.setsl 5 (.bin .sub (.var 3) (.bi .len (.cons (.var 4) .nil))) .nil (.var 4)) (.cons (.ret (.bi .tuple1 (.cons (.var 5) .nil))) .nil)))))))
/-- 43 check_size k rooms size least -/
def b_check_size : IS := (.cons (.set 3 (.call 40 (.cons (.var 0) (.cons (.var 1) .nil)))) (.cons (.ite (.notE (.call 1 (.cons (.var 2) (.cons (.var 3) (.cons (.glob 10) .nil))))) (.cons (.raise 9 (.var 3)) .nil) .nil) .nil))
/-- 44 stretch k rooms room size -/
def b_stretch : IS := (.cons (.expr (.call 35 (.cons (.var 0) (.cons (.var 1) .nil)))) (.cons (.ite (.notE (.call 1 (.cons (.var 2) (.cons (.lit (.int 0)) (.cons (.bi .max2 (.cons (.bin .sub (.var 1) (.lit (.int 1))) (.cons (.lit (.int 0)) .nil))) .nil))))) (.cons (.raise 7 (.var 2)) .nil) .nil) (.cons (.expr (.call 43 (.cons (.var 0) (.cons (.var 1) (.cons (.var 3) .nil))))) (.cons (.ret (.call 42 (.cons (.var 0) (.cons (.var 1) (.cons (.var 2) (.cons (.var 3) .nil)))))) .nil))))
/-- 45 loud_digits many -/
def b_loud_digits : IS := (.cons (.ret (.mt .bitlen (.bin .sub (.var 0) (.lit (.int 1))) .nil)) .nil)
/-- 46 size_of_unit many -/
def b_size_of_unit : IS := (.cons (.ret (.bin .add (.bi .len (.cons (.glob 13) .nil)) (.bin .mul (.lit (.int 2)) (.call 45 (.cons (.var 0) .nil))))) .nil)
/-- 47 least_loud many -/
def b_least_loud : IS := (.cons (.ret (.bin .mul (.call 46 (.cons (.var 0) .nil)) (.bin .add (.call 46 (.cons (.var 0) .nil)) (.lit (.int 1))))) .nil)
/-- 48 loud_unit_of many room found left turn -/
def b_loud_unit_of : IS := (.cons (.par 2 3 (.bi .list1 (.cons (.glob 13) .nil)) (.var 1)) (.cons (.forr (.var 4) (.range1 (.call 45 (.cons (.var 0) .nil))) (.cons (.ext 2 (.lst (.cons (.bin .mod (.var 3) (.lit (.int 2))) (.cons (.lit (.int 0)) .nil)))) (.cons (.set 3 (.bin .fdiv (.var 3) (.lit (.int 2)))) .nil))) (.cons (.ret (.bi .tuple1 (.cons (.var 2) .nil))) .nil)))
/-- 49 loud_stretch_of many room size unit units longer -/
def b_loud_stretch_of : IS := (.cons (.set 3 (.call 48 (.cons (.var 0) (.cons (.var 1) .nil)))) (.cons (.par 4 5 (.bin .fdiv (.var 2) (.bi .len (.cons (.var 3) .nil))) (.bin .mod (.var 2) (.bi .len (.cons (.var 3) .nil)))) (.cons (.ret (.bin .add (.bin .add (.var 3) (.bin .mul (.bin .add (.var 3) (.tup (.cons (.lit (.int 0)) .nil))) (.var 5))) (.bin .mul (.var 3) (.bin .sub (.bin .sub (.var 4) (.lit (.int 1))) (.var 5))))) .nil)))
/-- 50 check_loud many room -/
def b_check_loud : IS := (.cons (.expr (.call 3 (.cons (.var 0) (.cons (.lit (.int 1)) (.cons (.glob 12) .nil))))) (.cons (.ite (.notE (.call 1 (.cons (.var 1) (.cons (.lit (.int 0)) (.cons (.bin .sub (.var 0) (.lit (.int 1))) .nil))))) (.cons (.raise 7 (.var 1)) .nil) .nil) .nil))
/-- 51 loud_unit many room -/
def b_loud_unit : IS := (.cons (.expr (.call 50 (.cons (.var 0) (.cons (.var 1) .nil)))) (.cons (.ret (.call 48 (.cons (.var 0) (.cons (.var 1) .nil)))) .nil))
/-- 52 loud_stretch many room size -/
def b_loud_stretch : IS := (.cons (.expr (.call 50 (.cons (.var 0) (.cons (.var 1) .nil)))) (.cons (.ite (.notE (.call 1 (.cons (.var 2) (.cons (.call 47 (.cons (.var 0) .nil)) (.cons (.glob 10) .nil))))) (.cons (.raise 9 (.call 47 (.cons (.var 0) .nil))) .nil) .nil) (.cons (.ret (.call 49 (.cons (.var 0) (.cons (.var 1) (.cons (.var 2) .nil))))) .nil)))
/-- 53 told_from_of many_quiet many_loud -/
def b_told_from_of : IS := (.cons (.ite (.cmp .eq (.var 1) (.lit (.int 0))) (.cons (.ret (.call 33 (.cons (.var 0) .nil))) .nil) .nil) (.cons (.ret (.bi .max3 (.cons (.call 33 (.cons (.var 0) .nil)) (.cons (.glob 15) (.cons (.bin .mul (.lit (.int 2)) (.call 46 (.cons (.var 1) .nil))) .nil))))) .nil))
/-- 54 told_shortest_of k many_quiet many_loud least -/
def b_told_shortest_of : IS := (.cons (.set 3 (.call 40 (.cons (.var 0) (.cons (.var 1) .nil)))) (.cons (.ret (.ite (.cmp .eq (.var 2) (.lit (.int 0))) (.var 3) (.bi .max2 (.cons (.var 3) (.cons (.call 47 (.cons (.var 2) .nil)) .nil))))) .nil))
/-- 55 check_told_thin k many_quiet many_loud least -/
def b_check_told_thin : IS := (.cons (.set 3 (.call 53 (.cons (.var 1) (.cons (.var 2) .nil)))) (.cons (.ite (.cmp .lt (.var 0) (.var 3)) (.cons (.raise 8 (.var 3)) .nil) .nil) .nil))
/-- 56 told_from many_quiet many_loud -/
def b_told_from : IS := (.cons (.expr (.call 3 (.cons (.var 0) (.cons (.lit (.int 0)) (.cons (.glob 14) .nil))))) (.cons (.expr (.call 3 (.cons (.var 1) (.cons (.lit (.int 0)) (.cons (.glob 12) .nil))))) (.cons (.ret (.call 53 (.cons (.var 0) (.cons (.var 1) .nil)))) .nil)))
/-- 57 told_shortest k many_quiet many_loud -/
def b_told_shortest : IS := (.cons (.expr (.call 5 (.cons (.var 0) .nil))) (.cons (.expr (.call 3 (.cons (.var 1) (.cons (.lit (.int 0)) (.cons (.glob 9) .nil))))) (.cons (.expr (.call 3 (.cons (.var 2) (.cons (.lit (.int 0)) (.cons (.glob 12) .nil))))) (.cons (.expr (.call 55 (.cons (.var 0) (.cons (.var 1) (.cons (.var 2) .nil))))) (.cons (.ret (.call 54 (.cons (.var 0) (.cons (.var 1) (.cons (.var 2) .nil))))) .nil)))))
/-- 58 loud_rooms scheme room -/
def b_loud_rooms : IS := (.cons (.ret (.comp (.var 1) (.range1 (.ix (.ix (.var 0) (.lit (.int 0))) (.lit (.int 1)))) (.cmp .notin (.var 1) (.ix (.var 0) (.lit (.int 1)))) (.var 1) [1])) .nil)
/-- 59 check_told_plan scheme k quiet loud -/
def b_check_told_plan : IS := (.cons (.par 2 3 (.bi .list1 (.cons (.ix (.var 0) (.lit (.int 1))) .nil)) (.call 58 (.cons (.var 0) .nil))) (.cons (.ite (.cmp .gt (.bi .len (.cons (.var 2) .nil)) (.glob 9)) (.cons (.raise 6 (.bi .len (.cons (.var 2) .nil))) .nil) .nil) (.cons (.expr (.call 55 (.cons (.var 1) (.cons (.bi .len (.cons (.var 2) .nil)) (.cons (.bi .len (.cons (.var 3) .nil)) .nil))))) (.cons (.ret (.tup (.cons (.var 2) (.cons (.var 3) .nil)))) .nil))))
/-- 60 room_stretch_of scheme k room size quiet loud -/
def b_room_stretch_of : IS := (.cons (.set 4 (.ix1 0)) (.cons (.ite (.cmp .isin (.var 2) (.var 4)) (.cons (.ret (.call 42 (.cons (.var 1) (.cons (.bi .len (.cons (.var 4) .nil)) (.cons (.mt .index (.var 4) (.cons (.var 2) .nil)) (.cons (.var 3) .nil)))))) .nil) .nil) (.cons (.set 5 (.call 58 (.cons (.var 0) .nil))) (.cons (.ret (.call 49 (.cons (.bi .len (.cons (.var 5) .nil)) (.cons (.mt .index (.var 5) (.cons (.var 2) .nil)) (.cons (.var 3) .nil))))) .nil))))
/-- 61 told_stretch scheme k room size quiet loud least -/
def b_told_stretch : IS := (.cons (.expr (.call 22 (.cons (.var 0) .nil))) (.cons (.expr (.call 5 (.cons (.var 1) .nil))) (.cons (.unpack (.tup (.cons (.var 4) (.cons (.var 5) .nil))) (.call 59 (.cons (.var 0) (.cons (.var 1) .nil)))) (.cons (.ite (.notE (.call 1 (.cons (.var 2) (.cons (.lit (.int 0)) (.cons (.bin .sub (.ix (.ix (.var 0) (.lit (.int 0))) (.lit (.int 1))) (.lit (.int 1))) .nil))))) (.cons (.raise 7 (.var 2)) .nil) .nil) (.cons (.set 6 (.call 54 (.cons (.var 1) (.cons (.bi .len (.cons (.var 4) .nil)) (.cons (.bi .len (.cons (.var 5) .nil)) .nil))))) (.cons (.ite (.notE (.call 1 (.cons (.var 3) (.cons (.var 6) (.cons (.glob 10) .nil))))) (.cons (.raise 9 (.var 6)) .nil) .nil) (.cons (.ret (.call 60 (.cons (.var 0) (.cons (.var 1) (.cons (.var 2) (.cons (.var 3) .nil)))))) .nil)))))))
/-- 62 bound k rooms size room -/
def b_bound : IS := (.cons (.expr (.call 35 (.cons (.var 0) (.cons (.var 1) .nil)))) (.cons (.expr (.call 43 (.cons (.var 0) (.cons (.var 1) (.cons (.var 2) .nil))))) (.cons (.ret (.bi .max1 (.cons (.comp (.var 3) (.range1 (.bi .max2 (.cons (.var 1) (.cons (.lit (.int 1)) .nil)))) .nil (.bi .sum (.cons (.call 42 (.cons (.var 0) (.cons (.var 1) (.cons (.var 3) (.cons (.var 2) .nil))))) .nil)) [3]) .nil))) .nil)))
/-- 63 _law_pool script k cell big mixed -/
def b_law_pool : IS := (.cons (.set 2 (.lit (.int 0))) (.cons (.ite (.cmp .lt (.var 1) (.bi .len (.cons (.var 0) .nil))) (.cons (.set 2 (.ix (.var 0) (.var 1))) .nil) (.cons (.ite (.cmp .ne (.var 0) (.lst .nil)) (.cons (.set 2 (.ix (.var 0) (.lit (.int 0)))) .nil) .nil) .nil)) (.cons (.set 3 (.bi .max2 (.cons (.bi .int1 (.cons (.var 2) .nil)) (.cons (.bi .int1 (.cons (.bin .sub (.neg (.lit (.int 1))) (.var 2)) .nil)) .nil)))) (.cons (.set 4 (.bin .mod (.bi .int1 (.cons (.bin .mul (.bin .add (.bin .add (.bin .add (.bin .mod (.bi .int1 (.cons (.var 3) .nil)) (.lit (.int 2147483629))) (.bin .mul (.bin .mul (.lit (.int 7919)) (.var 1)) (.var 1))) (.bin .mul (.lit (.int 31)) (.var 1))) (.lit (.int 17))) (.lit (.int 48271))) .nil)) (.lit (.int 2147483647)))) (.cons (.ret (.lst (.cons (.bin .mul (.var 3) (.bi .int1 (.cons (.andE (.cmp .ge (.var 3) (.bin .pow (.lit (.int 10)) (.lit (.int 18)))) (.cmp .lt (.var 1) (.bi .len (.cons (.var 0) .nil)))) .nil))) (.cons (.var 4) .nil)))) .nil)))))
/-- 64 _law_take jar top drawn -/
def b_law_take : IS := (.cons (.ite (.cmp .gt (.ix (.var 0) (.lit (.int 0))) (.lit (.int 0))) (.cons (.set 2 (.bin .mod (.bi .int1 (.cons (.ix (.var 0) (.lit (.int 0))) .nil)) (.var 1))) (.cons (.setix 0 (.lit (.int 0)) (.bin .fdiv (.ix (.var 0) (.lit (.int 0))) (.var 1))) (.cons (.ret (.var 2)) .nil))) .nil) (.cons (.setix 0 (.lit (.int 1)) (.bin .mod (.bi .int1 (.cons (.bin .add (.bin .mul (.ix (.var 0) (.lit (.int 1))) (.lit (.int 39373))) (.lit (.int 7))) .nil)) (.lit (.int 2147483647)))) (.cons (.ret (.bin .mod (.bi .int1 (.cons (.bin .fdiv (.bin .mod (.bi .int1 (.cons (.bin .mul (.ix (.var 0) (.lit (.int 1))) (.ix (.var 0) (.lit (.int 1)))) .nil)) (.lit (.int 2147483629))) (.lit (.int 32))) .nil)) (.var 1))) .nil)))
/-- 65 _law_one jar some -/
def b_law_one : IS := (.cons (.ret (.ix (.var 1) (.call 64 (.cons (.ioarg 0) (.cons (.bi .len (.cons (.var 1) .nil)) .nil))))) .nil)
/-- 66 _law_mixed jar some waiting found go -/
def b_law_mixed : IS := (.cons (.par 2 3 (.bi .list1 (.cons (.var 1) .nil)) (.lst .nil)) (.cons (.forr (.var 4) (.range1 (.bi .len (.cons (.var 2) .nil))) (.cons (.app 3 (.popAt 2 (.call 64 (.cons (.ioarg 0) (.cons (.bi .len (.cons (.var 2) .nil)) .nil))))) .nil)) (.cons (.ret (.var 3)) .nil)))
/-- 67 _law_is_whole thing -/
def b_law_is_whole : IS := (.cons (.ret (.andE (.isi (.var 0) .int) (.notE (.isi (.var 0) .bool)))) .nil)
/-- 68 _law_same heard owed todo one due is_so i -/
def b_law_same : IS := (.cons (.set 2 (.lst (.cons (.tup (.cons (.var 0) (.cons (.var 1) .nil))) .nil))) (.cons (.whil (.cmp .ne (.var 2) (.lst .nil)) (.cons (.unpack (.tup (.cons (.var 3) (.cons (.var 4) .nil))) (.pop 2)) (.cons (.ite (.cmp .is (.var 4) (.lit .none)) (.cons (.set 5 (.cmp .is (.var 3) (.lit .none))) .nil) (.cons (.ite (.isi (.var 4) .bool) (.cons (.set 5 (.andE (.isi (.var 3) .bool) (.cmp .eq (.var 3) (.var 4)))) .nil) (.cons (.ite (.isi (.var 4) .int) (.cons (.set 5 (.andE (.call 67 (.cons (.var 3) .nil)) (.cmp .eq (.var 3) (.var 4)))) .nil) (.cons (.ite (.isi (.var 4) .str) (.cons (.set 5 (.andE (.isi (.var 3) .str) (.cmp .eq (.var 3) (.var 4)))) .nil) (.cons (.ite (.isi (.var 4) .dict) (.cons (.set 5 (.andE (.isi (.var 3) .dict) (.cmp .eq (.var 3) (.var 4)))) .nil) (.cons (.set 5 (.ite (.isi (.var 4) .tuple) (.isi (.var 3) .tuple) (.isi (.var 3) .list))) (.cons (.set 5 (.andE (.var 5) (.cmp .eq (.bi .len (.cons (.var 3) .nil)) (.bi .len (.cons (.var 4) .nil))))) (.cons (.ext 2 (.ite (.var 5) (.comp (.var 6) (.range1 (.bi .len (.cons (.var 4) .nil))) .nil (.tup (.cons (.ix (.var 3) (.var 6)) (.cons (.ix (.var 4) (.var 6)) .nil))) [6]) (.lst .nil))) .nil)))) .nil)) .nil)) .nil)) .nil)) (.cons (.ite (.notE (.var 5)) (.cons (.ret (.lit (.bool false))) .nil) .nil) .nil)))) (.cons (.ret (.lit (.bool true))) .nil)))
/-- 69 _law_pt_bits number found -/
def b_law_pt_bits : IS := (.cons (.set 1 (.lst .nil)) (.cons (.whil (.cmp .gt (.var 0) (.lit (.int 0))) (.cons (.app 1 (.bin .mod (.bi .int1 (.cons (.var 0) .nil)) (.lit (.int 2)))) (.cons (.set 0 (.bin .fdiv (.var 0) (.lit (.int 2)))) .nil))) (.cons (.ret (.var 1)) .nil)))
/-- 70 _law_pt_code_size q -/
def b_law_pt_code_size : IS := (.cons (.ret (.ite (.cmp .lt (.var 0) (.lit (.int 2))) (.lit (.int 0)) (.bin .add (.lit (.int 1)) (.bi .len (.cons (.call 69 (.cons (.bin .sub (.var 0) (.lit (.int 2))) .nil)) .nil))))) .nil)
/-- 71 _law_pt_code q room many -/
def b_law_pt_code : IS := (.cons (.set 2 (.bin .sub (.call 70 (.cons (.var 0) .nil)) (.lit (.int 1)))) (.cons (.ret (.bin .add (.tup (.cons (.lit (.int 1)) .nil)) (.bi .tuple1 (.cons (.slice (.bin .add (.call 69 (.cons (.bin .sub (.var 1) (.lit (.int 1))) .nil)) (.bin .mul (.lst (.cons (.lit (.int 0)) .nil)) (.var 2))) .nil (.var 2)) .nil)))) .nil))
/-- 72 _law_pt_sure_from q -/
def b_law_pt_sure_from : IS := (.cons (.ret (.ite (.cmp .lt (.var 0) (.lit (.int 2))) (.lit (.int 1)) (.bin .mul (.bin .sub (.bin .mul (.lit (.int 2)) (.var 0)) (.lit (.int 3))) (.bin .add (.call 70 (.cons (.var 0) .nil)) (.lit (.int 3)))))) .nil)
/-- 73 _law_pt_loud_size l -/
def b_law_pt_loud_size : IS := (.cons (.ret (.bin .add (.lit (.int 5)) (.bin .mul (.lit (.int 2)) (.bi .len (.cons (.call 69 (.cons (.bin .sub (.var 0) (.lit (.int 1))) .nil)) .nil))))) .nil)
/-- 74 _law_pt_loud_unit l room many found digit -/
def b_law_pt_loud_unit : IS := (.cons (.par 2 3 (.bi .len (.cons (.call 69 (.cons (.bin .sub (.var 0) (.lit (.int 1))) .nil)) .nil)) (.lst (.cons (.lit (.int 1)) (.cons (.lit (.int 1)) (.cons (.lit (.int 1)) (.cons (.lit (.int 1)) (.cons (.lit (.int 0)) .nil))))))) (.cons (.forr (.var 4) (.slice (.bin .add (.call 69 (.cons (.var 1) .nil)) (.bin .mul (.lst (.cons (.lit (.int 0)) .nil)) (.var 2))) .nil (.var 2)) (.cons (.ext 3 (.lst (.cons (.var 4) (.cons (.lit (.int 0)) .nil)))) .nil)) (.cons (.ret (.bi .tuple1 (.cons (.var 3) .nil))) .nil)))
/-- 75 _law_pt_from q l -/
def b_law_pt_from : IS := (.cons (.ite (.cmp .eq (.var 1) (.lit (.int 0))) (.cons (.ret (.call 72 (.cons (.var 0) .nil))) .nil) .nil) (.cons (.ret (.bi .max3 (.cons (.bi .int1 (.cons (.call 72 (.cons (.var 0) .nil)) .nil)) (.cons (.lit (.int 12)) (.cons (.bi .int1 (.cons (.bin .mul (.lit (.int 2)) (.call 73 (.cons (.var 1) .nil))) .nil)) .nil))))) .nil))
/-- 76 _law_pt_gaps k q room share_now gap ahead -/
def b_law_pt_gaps : IS := (.cons (.set 3 (.bin .fdiv (.var 0) (.bin .sub (.bin .mul (.lit (.int 2)) (.var 1)) (.lit (.int 3))))) (.cons (.ite (.cmp .eq (.var 2) (.lit (.int 1))) (.cons (.set 4 (.bin .sub (.var 0) (.bin .mul (.bin .sub (.var 1) (.lit (.int 2))) (.var 3)))) (.cons (.set 5 (.bin .sub (.bin .sub (.var 4) (.call 70 (.cons (.var 1) .nil))) (.lit (.int 2)))) (.cons (.ret (.tup (.cons (.var 5) (.cons (.tup (.cons (.var 4) .nil)) (.cons (.var 5) .nil))))) .nil))) .nil) (.cons (.ret (.tup (.cons (.bin .mul (.bin .sub (.var 2) (.lit (.int 1))) (.var 3)) (.cons (.tup (.cons (.bin .sub (.var 0) (.bin .mul (.bin .sub (.var 2) (.lit (.int 2))) (.var 3))) (.cons (.bin .mul (.bin .sub (.var 2) (.lit (.int 1))) (.var 3)) .nil))) (.cons (.lit .none) .nil))))) .nil)))
/-- 77 _law_pt_shortest k q found c room ahead unit rear_gap period many rims -/
def b_law_pt_shortest : IS := (.cons (.par 2 3 (.bin .mul (.lit (.int 3)) (.var 0)) (.call 70 (.cons (.var 1) .nil))) (.cons (.forr (.var 4) (.range2 (.lit (.int 1)) (.var 1)) (.cons (.unpack (.tup (.cons (.var 5) (.cons (.var 6) (.cons (.var 7) .nil)))) (.call 76 (.cons (.var 0) (.cons (.var 1) (.cons (.var 4) .nil))))) (.cons (.set 8 (.bi .sum (.cons (.var 6) .nil))) (.cons (.set 9 (.bi .max2 (.cons (.lit (.int 1)) (.cons (.bi .int1 (.cons (.neg (.bin .fdiv (.neg (.bin .sub (.var 8) (.lit (.int 4)))) (.lit (.int 3)))) .nil)) .nil)))) (.cons (.set 10 (.bin .add (.var 5) (.ite (.cmp .isnot (.var 7) (.lit .none)) (.var 7) (.lit (.int 0))))) (.cons (.set 2 (.bi .max2 (.cons (.bi .int1 (.cons (.var 2) .nil)) (.cons (.bi .int1 (.cons (.bin .add (.bin .add (.bin .sub (.bin .mul (.lit (.int 2)) (.var 3)) (.lit (.int 1))) (.var 10)) (.bin .mul (.var 9) (.bin .sub (.var 8) (.lit (.int 3))))) .nil)) .nil)))) .nil)))))) (.cons (.ret (.var 2)) .nil)))
/-- 78 _law_pt_told_shortest k q l u -/
def b_law_pt_told_shortest : IS := (.cons (.set 3 (.ite (.cmp .gt (.var 2) (.lit (.int 0))) (.call 73 (.cons (.var 2) .nil)) (.lit (.int 0)))) (.cons (.ret (.bi .max2 (.cons (.bi .int1 (.cons (.call 77 (.cons (.var 0) (.cons (.var 1) .nil))) .nil)) (.cons (.bi .int1 (.cons (.bin .mul (.var 3) (.bin .add (.var 3) (.lit (.int 1)))) .nil)) .nil)))) .nil))
/-- 79 _law_pt_quiet_stretch k q room size ahead unit rear_gap tail signs_now period wanted many less gaps go cells gap cut -/
def b_law_pt_quiet_stretch : IS := (.cons (.ite (.cmp .eq (.var 2) (.lit (.int 0))) (.cons (.ret (.tmul (.cons (.lit (.int 0)) .nil) (.var 3))) .nil) .nil) (.cons (.unpack (.tup (.cons (.var 4) (.cons (.var 5) (.cons (.var 6) .nil)))) (.call 76 (.cons (.var 0) (.cons (.var 1) (.cons (.var 2) .nil))))) (.cons (.set 7 (.ite (.cmp .isnot (.var 6) (.lit .none)) (.lst (.cons (.var 6) .nil)) (.lst .nil))) (.cons (.par 8 9 (.call 71 (.cons (.var 1) (.cons (.var 2) .nil))) (.bi .sum (.cons (.var 5) .nil))) (.cons (.par 10 11 (.bin .add (.bin .sub (.var 3) (.bin .mul (.lit (.int 2)) (.bi .len (.cons (.var 8) .nil)))) (.lit (.int 1))) (.lit (.int 1))) (.cons (.whil (.cmp .lt (.bin .add (.bin .add (.var 4) (.bin .mul (.var 11) (.var 9))) (.bi .sum (.cons (.var 7) .nil))) (.var 10)) (.cons (.set 11 (.bin .add (.var 11) (.lit (.int 1)))) .nil)) (.cons (.par 12 13 (.bin .sub (.bin .add (.bin .add (.var 4) (.bin .mul (.var 11) (.var 9))) (.bi .sum (.cons (.var 7) .nil))) (.var 10)) (.lst (.cons (.var 4) .nil))) (.cons (.forr (.var 14) (.range1 (.var 11)) (.cons (.set 17 (.bi .min2 (.cons (.lit (.int 3)) (.cons (.bi .int1 (.cons (.var 12) .nil)) .nil)))) (.cons (.ext 13 (.bin .add (.lst (.cons (.bin .sub (.ix (.var 5) (.lit (.int 0))) (.var 17)) .nil)) (.bi .list1 (.cons (.slice (.var 5) (.lit (.int 1)) .nil) .nil)))) (.cons (.set 12 (.bin .sub (.var 12) (.var 17))) .nil)))) (.cons (.set 15 (.bi .list1 (.cons (.rev (.var 8)) .nil))) (.cons (.forr (.var 16) (.bin .add (.var 13) (.var 7)) (.cons (.ext 15 (.bin .add (.bin .mul (.lst (.cons (.lit (.int 0)) .nil)) (.bin .sub (.var 16) (.lit (.int 1)))) (.lst (.cons (.lit (.int 1)) .nil)))) .nil)) (.cons (.ret (.bi .tuple1 (.cons (.bin .add (.var 15) (.bi .list1 (.cons (.slice (.var 8) (.lit (.int 1)) .nil) .nil))) .nil))) .nil)))))))))))
/-- 80 _law_pt_loud_stretch l room size unit many more cells go -/
def b_law_pt_loud_stretch : IS := (.cons (.set 3 (.call 74 (.cons (.var 0) (.cons (.var 1) .nil)))) (.cons (.par3 4 5 6 (.bin .fdiv (.var 2) (.bi .len (.cons (.var 3) .nil))) (.bin .mod (.bi .int1 (.cons (.var 2) .nil)) (.bi .len (.cons (.var 3) .nil))) (.lst .nil)) (.cons (.forr (.var 7) (.range1 (.var 4)) (.cons (.ext 6 (.bin .add (.bi .list1 (.cons (.var 3) .nil)) (.bin .mul (.lst (.cons (.lit (.int 0)) .nil)) (.bi .int1 (.cons (.chain .le .le (.lit (.int 1)) (.var 7) (.var 5)) .nil))))) .nil)) (.cons (.ret (.bi .tuple1 (.cons (.var 6) .nil))) .nil))))
/-- 81 _law_pt_k jar q l -/
def b_law_pt_k : IS := (.cons (.ret (.bin .add (.call 75 (.cons (.var 1) (.cons (.var 2) .nil))) (.call 65 (.cons (.ioarg 0) (.cons (.lst (.cons (.lit (.int 0)) (.cons (.lit (.int 0)) (.cons (.lit (.int 1)) (.cons (.lit (.int 2)) (.cons (.call 64 (.cons (.ioarg 0) (.cons (.lit (.int 7)) .nil))) .nil)))))) .nil))))) .nil)
/-- 82 _law_chain_of q l places many moves i -/
def b_law_chain_of : IS := (.cons (.set 3 (.bin .add (.var 0) (.var 1))) (.cons (.set 4 (.bi .tuple1 (.cons (.comp (.var 5) (.range1 (.bin .sub (.var 3) (.lit (.int 1)))) .nil (.tup (.cons (.var 5) (.cons (.lit (.int 0)) (.cons (.bin .add (.var 5) (.lit (.int 1))) .nil)))) [5]) .nil))) (.cons (.ret (.tup1 (.tup (.cons (.lit (.int 1)) (.cons (.var 3) (.cons (.bi .tupleR (.cons (.var 3) .nil)) (.cons (.bi .tupleR (.cons (.var 3) .nil)) (.cons (.var 4) .nil)))))) 2)) .nil)))
/-- 83 _law_price_by k q under -/
def b_law_price_by : IS := (.cons (.ite (.cmp .lt (.var 1) (.lit (.int 2))) (.cons (.ret (.tup (.cons (.lit (.int 0)) (.cons (.lit (.int 1)) .nil)))) .nil) .nil) (.cons (.set 2 (.bin .add (.var 0) (.bin .fdiv (.var 0) (.bin .sub (.bin .mul (.lit (.int 2)) (.var 1)) (.lit (.int 3)))))) (.cons (.ret (.ite (.cmp .eq (.bin .mod (.bi .int1 (.cons (.var 2) .nil)) (.lit (.int 2))) (.lit (.int 0))) (.tup (.cons (.lit (.int 1)) (.cons (.bin .fdiv (.var 2) (.lit (.int 2))) .nil))) (.tup (.cons (.lit (.int 2)) (.cons (.var 2) .nil))))) .nil)))
/-- 84 _law_plan_by k q found room ahead unit rear_gap -/
def b_law_plan_by : IS := (.cons (.set 2 (.lst .nil)) (.cons (.forr (.var 3) (.range2 (.lit (.int 1)) (.var 1)) (.cons (.unpack (.tup (.cons (.var 4) (.cons (.var 5) (.cons (.var 6) .nil)))) (.call 76 (.cons (.var 0) (.cons (.var 1) (.cons (.var 3) .nil))))) (.cons (.app 2 (.ite (.cmp .eq (.var 3) (.lit (.int 1))) (.tup (.cons (.lit (.str "middle")) (.cons (.var 4) (.cons (.ix (.var 5) (.lit (.int 0))) .nil)))) (.tup (.cons (.lit (.str "side")) (.cons (.var 4) (.cons (.ix (.var 5) (.lit (.int 0))) .nil)))))) .nil))) (.cons (.ret (.bi .tuple1 (.cons (.var 2) .nil))) .nil)))
/-- 85 _law_quiet_right jar scheme k q l size dots room cells -/
def b_law_quiet_right : IS := (.cons (.set 6 (.lst .nil)) (.cons (.forr (.var 7) (.range1 (.var 3)) (.cons (.set 8 (.call 79 (.cons (.var 2) (.cons (.var 3) (.cons (.var 7) (.cons (.var 5) .nil)))))) (.cons (.ite (.notE (.call 68 (.cons (.told tnames (.call 61 (.cons (.var 1) (.cons (.var 2) (.cons (.ix (.ix (.var 1) (.lit (.int 1))) (.var 7)) (.cons (.var 5) .nil)))))) (.cons (.tup (.cons (.lit (.str "told")) (.cons (.var 8) .nil))) .nil)))) (.cons (.ret (.lit (.bool false))) .nil) .nil) (.cons (.ite (.andE (.cmp .eq (.var 4) (.lit (.int 0))) (.notE (.call 68 (.cons (.told tnames (.call 44 (.cons (.var 2) (.cons (.var 3) (.cons (.var 7) (.cons (.var 5) .nil)))))) (.cons (.tup (.cons (.lit (.str "told")) (.cons (.var 8) .nil))) .nil))))) (.cons (.ret (.lit (.bool false))) .nil) .nil) (.cons (.app 6 (.bi .sum (.cons (.var 8) .nil))) .nil))))) (.cons (.ret (.call 68 (.cons (.told tnames (.call 62 (.cons (.var 2) (.cons (.var 3) (.cons (.var 5) .nil))))) (.cons (.tup (.cons (.lit (.str "told")) (.cons (.bi .max1 (.cons (.bin .add (.lst (.cons (.lit (.int 0)) .nil)) (.var 6)) .nil)) .nil))) .nil)))) .nil)))
/-- 86 _law_loud_right jar scheme k l size places number cells heard room -/
def b_law_loud_right : IS := (.cons (.set 5 (.comp (.var 9) (.range1 (.ix (.ix (.var 1) (.lit (.int 0))) (.lit (.int 1)))) (.cmp .notin (.var 9) (.ix (.var 1) (.lit (.int 1)))) (.var 9) [9])) (.cons (.forr (.var 6) (.range1 (.var 3)) (.cons (.set 7 (.call 80 (.cons (.var 3) (.cons (.var 6) (.cons (.var 4) .nil))))) (.cons (.set 8 (.told tnames (.tup (.cons (.call 61 (.cons (.var 1) (.cons (.var 2) (.cons (.ix (.var 5) (.var 6)) (.cons (.var 4) .nil))))) (.cons (.call 52 (.cons (.var 3) (.cons (.var 6) (.cons (.var 4) .nil)))) .nil))))) (.cons (.ite (.notE (.call 68 (.cons (.var 8) (.cons (.tup (.cons (.lit (.str "told")) (.cons (.tup (.cons (.var 7) (.cons (.var 7) .nil))) .nil))) .nil)))) (.cons (.ret (.lit (.bool false))) .nil) .nil) (.cons (.ite (.notE (.call 68 (.cons (.call 51 (.cons (.var 3) (.cons (.var 6) .nil))) (.cons (.call 74 (.cons (.var 3) (.cons (.var 6) .nil))) .nil)))) (.cons (.ret (.lit (.bool false))) .nil) .nil) .nil))))) (.cons (.ret (.lit (.bool true))) .nil)))
/-- 87 _law_plan_right k q over under far greatest entry row cells dots -/
def b_law_plan_right : IS := (.cons (.unpack (.tup (.cons (.var 2) (.cons (.var 3) .nil))) (.call 83 (.cons (.var 0) (.cons (.var 1) .nil)))) (.cons (.set 4 (.ite (.cmp .lt (.var 1) (.lit (.int 2))) (.tup (.cons (.lit (.int 0)) (.cons (.lit (.int 1)) .nil))) (.tup (.cons (.bin .sub (.bin .mul (.lit (.int 2)) (.bin .sub (.var 1) (.lit (.int 1)))) (.lit (.int 1))) (.cons (.bin .sub (.var 1) (.lit (.int 1))) .nil))))) (.cons (.ite (.notE (.call 68 (.cons (.tup (.cons (.call 37 (.cons (.var 0) (.cons (.var 1) .nil))) (.cons (.call 30 (.cons (.var 0) (.cons (.var 1) .nil))) (.cons (.call 31 (.cons (.var 1) .nil)) .nil)))) (.cons (.tup (.cons (.call 84 (.cons (.var 0) (.cons (.var 1) .nil))) (.cons (.tup (.cons (.var 2) (.cons (.var 3) .nil))) (.cons (.var 4) .nil)))) .nil)))) (.cons (.ret (.lit (.bool false))) .nil) .nil) (.cons (.set 5 (.tup (.cons (.lit (.int 0)) (.cons (.lit (.int 1)) .nil)))) (.cons (.forr (.var 6) (.call 84 (.cons (.var 0) (.cons (.var 1) .nil))) (.cons (.set 7 (.ite (.cmp .eq (.ix (.var 6) (.lit (.int 0))) (.lit (.str "middle"))) (.tup (.cons (.ix (.var 6) (.lit (.int 2))) .nil)) (.tup (.cons (.ix (.var 6) (.lit (.int 2))) (.cons (.ix (.var 6) (.lit (.int 1))) .nil))))) (.cons (.unpack (.tup (.cons (.var 8) (.cons (.var 9) .nil))) (.call 88 (.cons (.bi .sum (.cons (.var 7) .nil)) (.cons (.bi .len (.cons (.var 7) .nil)) .nil)))) (.cons (.ite (.notE (.call 68 (.cons (.tup (.cons (.call 10 (.cons (.var 7) .nil)) (.cons (.call 8 (.cons (.var 7) .nil)) .nil))) (.cons (.tup (.cons (.tup (.cons (.var 9) (.cons (.var 8) .nil))) (.cons (.tup (.cons (.var 8) (.cons (.var 9) .nil))) .nil))) .nil)))) (.cons (.ret (.lit (.bool false))) .nil) .nil) (.cons (.set 5 (.ite (.cmp .gt (.bin .mul (.var 9) (.ix (.var 5) (.lit (.int 1)))) (.bin .mul (.ix (.var 5) (.lit (.int 0))) (.var 8))) (.tup (.cons (.var 9) (.cons (.var 8) .nil))) (.var 5))) .nil))))) (.cons (.ret (.cmp .eq (.var 5) (.tup (.cons (.var 2) (.cons (.var 3) .nil))))) .nil))))))
/-- 88 _law_lowest over under a b -/
def b_law_lowest : IS := (.cons (.par 2 3 (.var 0) (.var 1)) (.cons (.whil (.cmp .gt (.var 3) (.lit (.int 0))) (.cons (.par 2 3 (.var 3) (.bin .mod (.bi .int1 (.cons (.var 2) .nil)) (.var 3))) .nil)) (.cons (.ret (.tup (.cons (.bin .fdiv (.var 0) (.var 2)) (.cons (.bin .fdiv (.var 1) (.var 2)) .nil)))) .nil)))
/-- 89 _law_doors_right jar scheme k q l least small room heard u bad -/
def b_law_doors_right : IS := (.cons (.set 6 (.call 65 (.cons (.ioarg 0) (.cons (.lst (.cons (.bin .sub (.var 5) (.lit (.int 1))) (.cons (.lit (.int 0)) (.cons (.neg (.lit (.int 1))) (.cons (.lit (.int 5001)) (.cons (.lit .none) (.cons (.lit (.bool true)) .nil))))))) .nil)))) (.cons (.set 7 (.call 65 (.cons (.ioarg 0) (.cons (.lst (.cons (.ix (.ix (.var 1) (.lit (.int 0))) (.lit (.int 1))) (.cons (.neg (.lit (.int 1))) (.cons (.lit .none) (.cons (.lit (.str "0")) (.cons (.lit (.bool false)) .nil)))))) .nil)))) (.cons (.set 8 (.lst (.cons (.told tnames (.call 61 (.cons (.var 1) (.cons (.var 2) (.cons (.var 7) (.cons (.var 6) .nil)))))) .nil))) (.cons (.app 8 (.told tnames (.call 61 (.cons (.var 1) (.cons (.var 2) (.cons (.lit (.int 0)) (.cons (.var 6) .nil))))))) (.cons (.ite (.notE (.call 68 (.cons (.var 8) (.cons (.lst (.cons (.tup (.cons (.lit (.str "BadRoom")) (.cons (.var 7) .nil))) (.cons (.tup (.cons (.lit (.str "BadSize")) (.cons (.var 5) .nil))) .nil))) .nil)))) (.cons (.ret (.lit (.bool false))) .nil) .nil) (.cons (.set 8 (.lst (.cons (.told tnames (.call 56 (.cons (.var 3) (.cons (.var 4) .nil)))) .nil))) (.cons (.app 8 (.told tnames (.call 57 (.cons (.var 2) (.cons (.var 3) (.cons (.var 4) .nil)))))) (.cons (.ite (.notE (.call 68 (.cons (.var 8) (.cons (.lst (.cons (.tup (.cons (.lit (.str "told")) (.cons (.call 75 (.cons (.var 3) (.cons (.var 4) .nil))) .nil))) (.cons (.tup (.cons (.lit (.str "told")) (.cons (.var 5) .nil))) .nil))) .nil)))) (.cons (.ret (.lit (.bool false))) .nil) .nil) (.cons (.ite (.cmp .eq (.var 4) (.lit (.int 0))) (.cons (.ret (.lit (.bool true))) .nil) .nil) (.cons (.set 9 (.call 73 (.cons (.var 4) .nil))) (.cons (.set 10 (.call 65 (.cons (.ioarg 0) (.cons (.lst (.cons (.lit (.int 0)) (.cons (.lit (.int 17)) (.cons (.lit .none) .nil)))) .nil)))) (.cons (.set 8 (.lst (.cons (.told tnames (.call 52 (.cons (.var 10) (.cons (.lit (.int 9)) (.cons (.lit (.int 0)) .nil))))) .nil))) (.cons (.app 8 (.told tnames (.call 52 (.cons (.var 4) (.cons (.var 4) (.cons (.lit (.int 0)) .nil)))))) (.cons (.app 8 (.told tnames (.call 52 (.cons (.var 4) (.cons (.lit (.int 0)) (.cons (.bin .sub (.bin .mul (.var 9) (.bin .add (.var 9) (.lit (.int 1)))) (.lit (.int 1))) .nil)))))) (.cons (.ret (.call 68 (.cons (.var 8) (.cons (.lst (.cons (.tup (.cons (.lit (.str "BadMany")) (.cons (.lit (.int 0)) .nil))) (.cons (.tup (.cons (.lit (.str "BadRoom")) (.cons (.var 4) .nil))) (.cons (.tup (.cons (.lit (.str "BadSize")) (.cons (.bin .mul (.var 9) (.bin .add (.var 9) (.lit (.int 1)))) .nil))) .nil)))) .nil)))) .nil)))))))))))))))
/-- 90 law script turn jar q l places scheme k least size x -/
def b_law : IS := (.cons (.forr (.var 1) (.range1 (.lit (.int 4))) (.cons (.set 2 (.call 63 (.cons (.var 0) (.cons (.var 1) .nil)))) (.cons (.par 3 4 (.call 64 (.cons (.ioarg 2) (.cons (.lit (.int 6)) .nil))) (.call 64 (.cons (.ioarg 2) (.cons (.lit (.int 8)) .nil)))) (.cons (.set 4 (.bin .add (.var 4) (.bi .int1 (.cons (.cmp .eq (.bin .add (.var 3) (.var 4)) (.lit (.int 0))) .nil)))) (.cons (.set 5 (.tupx (.bi .sorted1 (.cons (.comp (.var 10) (.slice (.call 66 (.cons (.ioarg 2) (.cons (.bi .listR (.cons (.bin .add (.var 3) (.var 4)) .nil)) .nil))) .nil (.var 3)) .nil (.bi .int1 (.cons (.var 10) .nil)) [10]) .nil)))) (.cons (.par 6 7 (.call 82 (.cons (.var 3) (.cons (.var 4) (.cons (.var 5) .nil)))) (.bi .min2 (.cons (.lit (.int 60)) (.cons (.bi .int1 (.cons (.call 81 (.cons (.ioarg 2) (.cons (.var 3) (.cons (.var 4) .nil)))) .nil)) .nil)))) (.cons (.set 8 (.call 78 (.cons (.var 7) (.cons (.var 3) (.cons (.var 4) .nil))))) (.cons (.set 9 (.call 65 (.cons (.ioarg 2) (.cons (.lst (.cons (.var 8) (.cons (.bin .add (.var 8) (.call 64 (.cons (.ioarg 2) (.cons (.lit (.int 40)) .nil)))) (.cons (.bi .min2 (.cons (.lit (.int 5000)) (.cons (.bin .add (.var 8) (.call 64 (.cons (.ioarg 2) (.cons (.lit (.int 4000)) .nil)))) .nil))) (.cons (.lit (.int 5000)) .nil))))) .nil)))) (.cons (.ite (.orE (.notE (.call 85 (.cons (.ioarg 2) (.cons (.var 6) (.cons (.var 7) (.cons (.var 3) (.cons (.var 4) (.cons (.var 9) .nil)))))))) (.notE (.call 86 (.cons (.ioarg 2) (.cons (.var 6) (.cons (.var 7) (.cons (.var 4) (.cons (.var 9) .nil)))))))) (.cons (.ret (.lit (.bool false))) .nil) .nil) (.cons (.ite (.orE (.notE (.call 87 (.cons (.var 7) (.cons (.var 3) .nil)))) (.notE (.call 89 (.cons (.ioarg 2) (.cons (.var 6) (.cons (.var 7) (.cons (.var 3) (.cons (.var 4) (.cons (.var 8) .nil))))))))) (.cons (.ret (.lit (.bool false))) .nil) .nil) .nil)))))))))) (.cons (.ret (.lit (.bool true))) .nil))
def fd_is_number : FD := ⟨1, 1, b_is_number⟩
def fd_is_between : FD := ⟨3, 3, b_is_between⟩
def fd_is_tuple_of : FD := ⟨3, 3, b_is_tuple_of⟩
def fd_check_many : FD := ⟨3, 3, b_check_many⟩
def fd_lowest : FD := ⟨2, 3, b_lowest⟩
def fd_made_k : FD := ⟨1, 1, b_made_k⟩
def fd_wrong_row : FD := ⟨1, 2, b_wrong_row⟩
def fd_made_row : FD := ⟨1, 2, b_made_row⟩
def fd_mean : FD := ⟨1, 1, b_mean⟩
def fd_density_of : FD := ⟨1, 1, b_density_of⟩
def fd_density : FD := ⟨1, 1, b_density⟩
def fd_is_rising : FD := ⟨1, 3, b_is_rising⟩
def fd_are_rooms : FD := ⟨2, 3, b_are_rooms⟩
def fd_is_move : FD := ⟨3, 3, b_is_move⟩
def fd_are_moves : FD := ⟨3, 4, b_are_moves⟩
def fd_wrong_machine : FD := ⟨1, 4, b_wrong_machine⟩
def fd_is_machine : FD := ⟨1, 1, b_is_machine⟩
def fd_flip : FD := ⟨1, 9, b_flip⟩
def fd_come_to : FD := ⟨2, 7, b_come_to⟩
def fd_trim : FD := ⟨1, 17, b_trim⟩
def fd_is_scheme_machine : FD := ⟨1, 1, b_is_scheme_machine⟩
def fd_wrong_scheme : FD := ⟨1, 1, b_wrong_scheme⟩
def fd_made_scheme : FD := ⟨1, 2, b_made_scheme⟩
def fd_made_ts : FD := ⟨1, 3, b_made_ts⟩
def fd_spare_of : FD := ⟨2, 2, b_spare_of⟩
def fd_spare : FD := ⟨2, 2, b_spare⟩
def fd_middle_of : FD := ⟨1, 1, b_middle_of⟩
def fd_intervals : FD := ⟨2, 7, b_intervals⟩
def fd_thin_rows : FD := ⟨2, 6, b_thin_rows⟩
def fd_price_of : FD := ⟨2, 2, b_price_of⟩
def fd_price : FD := ⟨2, 2, b_price⟩
def fd_long_price : FD := ⟨1, 1, b_long_price⟩
def fd_size_of_code : FD := ⟨1, 1, b_size_of_code⟩
def fd_sure_from_of : FD := ⟨1, 1, b_sure_from_of⟩
def fd_check_thin : FD := ⟨2, 2, b_check_thin⟩
def fd_check_plan : FD := ⟨2, 2, b_check_plan⟩
def fd_plan_of : FD := ⟨2, 6, b_plan_of⟩
def fd_plan : FD := ⟨2, 2, b_plan⟩
def fd_code_of : FD := ⟨2, 5, b_code_of⟩
def fd_parts_of : FD := ⟨1, 4, b_parts_of⟩
def fd_shortest_of : FD := ⟨2, 9, b_shortest_of⟩
def fd_gaps_of : FD := ⟨2, 11, b_gaps_of⟩
def fd_stretch_of : FD := ⟨4, 8, b_stretch_of⟩
def fd_check_size : FD := ⟨3, 4, b_check_size⟩
def fd_stretch : FD := ⟨4, 4, b_stretch⟩
def fd_loud_digits : FD := ⟨1, 1, b_loud_digits⟩
def fd_size_of_unit : FD := ⟨1, 1, b_size_of_unit⟩
def fd_least_loud : FD := ⟨1, 1, b_least_loud⟩
def fd_loud_unit_of : FD := ⟨2, 5, b_loud_unit_of⟩
def fd_loud_stretch_of : FD := ⟨3, 6, b_loud_stretch_of⟩
def fd_check_loud : FD := ⟨2, 2, b_check_loud⟩
def fd_loud_unit : FD := ⟨2, 2, b_loud_unit⟩
def fd_loud_stretch : FD := ⟨3, 3, b_loud_stretch⟩
def fd_told_from_of : FD := ⟨2, 2, b_told_from_of⟩
def fd_told_shortest_of : FD := ⟨3, 4, b_told_shortest_of⟩
def fd_check_told_thin : FD := ⟨3, 4, b_check_told_thin⟩
def fd_told_from : FD := ⟨2, 2, b_told_from⟩
def fd_told_shortest : FD := ⟨3, 3, b_told_shortest⟩
def fd_loud_rooms : FD := ⟨1, 2, b_loud_rooms⟩
def fd_check_told_plan : FD := ⟨2, 4, b_check_told_plan⟩
def fd_room_stretch_of : FD := ⟨4, 6, b_room_stretch_of⟩
def fd_told_stretch : FD := ⟨4, 7, b_told_stretch⟩
def fd_bound : FD := ⟨3, 4, b_bound⟩
def fd_law_pool : FD := ⟨2, 5, b_law_pool⟩
def fd_law_take : FD := ⟨2, 3, b_law_take⟩
def fd_law_one : FD := ⟨2, 2, b_law_one⟩
def fd_law_mixed : FD := ⟨2, 5, b_law_mixed⟩
def fd_law_is_whole : FD := ⟨1, 1, b_law_is_whole⟩
def fd_law_same : FD := ⟨2, 7, b_law_same⟩
def fd_law_pt_bits : FD := ⟨1, 2, b_law_pt_bits⟩
def fd_law_pt_code_size : FD := ⟨1, 1, b_law_pt_code_size⟩
def fd_law_pt_code : FD := ⟨2, 3, b_law_pt_code⟩
def fd_law_pt_sure_from : FD := ⟨1, 1, b_law_pt_sure_from⟩
def fd_law_pt_loud_size : FD := ⟨1, 1, b_law_pt_loud_size⟩
def fd_law_pt_loud_unit : FD := ⟨2, 5, b_law_pt_loud_unit⟩
def fd_law_pt_from : FD := ⟨2, 2, b_law_pt_from⟩
def fd_law_pt_gaps : FD := ⟨3, 6, b_law_pt_gaps⟩
def fd_law_pt_shortest : FD := ⟨2, 11, b_law_pt_shortest⟩
def fd_law_pt_told_shortest : FD := ⟨3, 4, b_law_pt_told_shortest⟩
def fd_law_pt_quiet_stretch : FD := ⟨4, 18, b_law_pt_quiet_stretch⟩
def fd_law_pt_loud_stretch : FD := ⟨3, 8, b_law_pt_loud_stretch⟩
def fd_law_pt_k : FD := ⟨3, 3, b_law_pt_k⟩
def fd_law_chain_of : FD := ⟨3, 6, b_law_chain_of⟩
def fd_law_price_by : FD := ⟨2, 3, b_law_price_by⟩
def fd_law_plan_by : FD := ⟨2, 7, b_law_plan_by⟩
def fd_law_quiet_right : FD := ⟨6, 9, b_law_quiet_right⟩
def fd_law_loud_right : FD := ⟨5, 10, b_law_loud_right⟩
def fd_law_plan_right : FD := ⟨2, 10, b_law_plan_right⟩
def fd_law_lowest : FD := ⟨2, 4, b_law_lowest⟩
def fd_law_doors_right : FD := ⟨6, 11, b_law_doors_right⟩
def fd_law : FD := ⟨1, 11, b_law⟩
def consts : List D := [(.int 60), (.int 24), (.int 99), (.int 4), (.int 40), (.int 16), (.int 8), (.int 60), (.int 30), (.int 5), (.int 5000), (.int 3), (.int 16), (.tuple [(.int 1), (.int 1), (.int 1), (.int 1), (.int 0)]), (.int 16), (.int 12)]
def prog : List FD := [fd_is_number, fd_is_between, fd_is_tuple_of, fd_check_many, fd_lowest, fd_made_k, fd_wrong_row, fd_made_row, fd_mean, fd_density_of, fd_density, fd_is_rising, fd_are_rooms, fd_is_move, fd_are_moves, fd_wrong_machine, fd_is_machine, fd_flip, fd_come_to, fd_trim, fd_is_scheme_machine, fd_wrong_scheme, fd_made_scheme, fd_made_ts, fd_spare_of, fd_spare, fd_middle_of, fd_intervals, fd_thin_rows, fd_price_of, fd_price, fd_long_price, fd_size_of_code, fd_sure_from_of, fd_check_thin, fd_check_plan, fd_plan_of, fd_plan, fd_code_of, fd_parts_of, fd_shortest_of, fd_gaps_of, fd_stretch_of, fd_check_size, fd_stretch, fd_loud_digits, fd_size_of_unit, fd_least_loud, fd_loud_unit_of, fd_loud_stretch_of, fd_check_loud, fd_loud_unit, fd_loud_stretch, fd_told_from_of, fd_told_shortest_of, fd_check_told_thin, fd_told_from, fd_told_shortest, fd_loud_rooms, fd_check_told_plan, fd_room_stretch_of, fd_told_stretch, fd_bound, fd_law_pool, fd_law_take, fd_law_one, fd_law_mixed, fd_law_is_whole, fd_law_same, fd_law_pt_bits, fd_law_pt_code_size, fd_law_pt_code, fd_law_pt_sure_from, fd_law_pt_loud_size, fd_law_pt_loud_unit, fd_law_pt_from, fd_law_pt_gaps, fd_law_pt_shortest, fd_law_pt_told_shortest, fd_law_pt_quiet_stretch, fd_law_pt_loud_stretch, fd_law_pt_k, fd_law_chain_of, fd_law_price_by, fd_law_plan_by, fd_law_quiet_right, fd_law_loud_right, fd_law_plan_right, fd_law_lowest, fd_law_doors_right, fd_law]

end TI

set_option Elab.async false
set_option autoImplicit false
set_option maxRecDepth 100000
set_option maxHeartbeats 0
set_option linter.all false
namespace TI
open PySem PySem.Spec PyProof.Rows L2
def top (i : Nat) : Stmt := PySem.Challenge.pw_toldquiet_k76_dots_of_long_stretches.main.body.getD i (.Pass ⟨0, 0, 0, 0⟩)
def t_is_number : DefT := ⟨"is_number", ["thing"], defArgs (top 17), defBody (top 17), defScope (top 17), false⟩
def t_is_between : DefT := ⟨"is_between", ["thing", "low", "high"], defArgs (top 18), defBody (top 18), defScope (top 18), false⟩
def t_is_tuple_of : DefT := ⟨"is_tuple_of", ["thing", "low", "high"], defArgs (top 19), defBody (top 19), defScope (top 19), false⟩
def t_check_many : DefT := ⟨"check_many", ["many", "low", "high"], defArgs (top 20), defBody (top 20), defScope (top 20), false⟩
def t_lowest : DefT := ⟨"lowest", ["p", "q", "by"], defArgs (top 21), defBody (top 21), defScope (top 21), false⟩
def t_made_k : DefT := ⟨"made_k", ["thing"], defArgs (top 22), defBody (top 22), defScope (top 22), false⟩
def t_wrong_row : DefT := ⟨"wrong_row", ["thing", "at"], defArgs (top 23), defBody (top 23), defScope (top 23), false⟩
def t_made_row : DefT := ⟨"made_row", ["thing", "wrong"], defArgs (top 24), defBody (top 24), defScope (top 24), false⟩
def t_mean : DefT := ⟨"mean", ["row"], defArgs (top 25), defBody (top 25), defScope (top 25), false⟩
def t_density_of : DefT := ⟨"density_of", ["row"], defArgs (top 26), defBody (top 26), defScope (top 26), false⟩
def t_density : DefT := ⟨"density", ["row"], defArgs (top 27), defBody (top 27), defScope (top 27), false⟩
def t_is_rising : DefT := ⟨"is_rising", ["things", "one", "other"], defArgs (top 31), defBody (top 31), defScope (top 31), false⟩
def t_are_rooms : DefT := ⟨"are_rooms", ["thing", "rooms", "room"], defArgs (top 32), defBody (top 32), defScope (top 32), false⟩
def t_is_move : DefT := ⟨"is_move", ["thing", "letters", "rooms"], defArgs (top 33), defBody (top 33), defScope (top 33), false⟩
def t_are_moves : DefT := ⟨"are_moves", ["thing", "letters", "rooms", "move"], defArgs (top 34), defBody (top 34), defScope (top 34), false⟩
def t_wrong_machine : DefT := ⟨"wrong_machine", ["thing", "letters", "rooms", "good"], defArgs (top 35), defBody (top 35), defScope (top 35), false⟩
def t_is_machine : DefT := ⟨"is_machine", ["thing"], defArgs (top 36), defBody (top 36), defScope (top 36), false⟩
def t_flip : DefT := ⟨"flip", ["machine", "letters", "rooms", "starts", "ends", "moves", "room", "letter", "to"], defArgs (top 37), defBody (top 37), defScope (top 37), false⟩
def t_come_to : DefT := ⟨"come_to", ["moves", "starts", "found", "at", "room", "letter", "to"], defArgs (top 38), defBody (top 38), defScope (top 38), false⟩
def t_trim : DefT := ⟨"trim", ["machine", "letters", "rooms", "starts", "ends", "moves", "ahead", "back", "kept", "new_starts", "new_ends", "inner", "new_moves", "room", "move", "letter", "to"], defArgs (top 39), defBody (top 39), defScope (top 39), false⟩
def t_is_scheme_machine : DefT := ⟨"is_scheme_machine", ["thing"], defArgs (top 44), defBody (top 44), defScope (top 44), false⟩
def t_wrong_scheme : DefT := ⟨"wrong_scheme", ["thing"], defArgs (top 45), defBody (top 45), defScope (top 45), false⟩
def t_made_scheme : DefT := ⟨"made_scheme", ["thing", "wrong"], defArgs (top 46), defBody (top 46), defScope (top 46), false⟩
def t_made_ts : DefT := ⟨"made_ts", ["thing", "at", "t"], defArgs (top 50), defBody (top 50), defScope (top 50), false⟩
def t_spare_of : DefT := ⟨"spare_of", ["k", "ts"], defArgs (top 51), defBody (top 51), defScope (top 51), false⟩
def t_spare : DefT := ⟨"spare", ["k", "ts"], defArgs (top 52), defBody (top 52), defScope (top 52), false⟩
def t_middle_of : DefT := ⟨"middle_of", ["ts"], defArgs (top 54), defBody (top 54), defScope (top 54), false⟩
def t_intervals : DefT := ⟨"intervals", ["k", "ts", "left", "found", "taken", "at", "t"], defArgs (top 55), defBody (top 55), defScope (top 55), false⟩
def t_thin_rows : DefT := ⟨"thin_rows", ["k", "ts", "found", "at", "first", "last"], defArgs (top 56), defBody (top 56), defScope (top 56), false⟩
def t_price_of : DefT := ⟨"price_of", ["k", "rooms"], defArgs (top 59), defBody (top 59), defScope (top 59), false⟩
def t_price : DefT := ⟨"price", ["k", "rooms"], defArgs (top 60), defBody (top 60), defScope (top 60), false⟩
def t_long_price : DefT := ⟨"long_price", ["rooms"], defArgs (top 61), defBody (top 61), defScope (top 61), false⟩
def t_size_of_code : DefT := ⟨"size_of_code", ["rooms"], defArgs (top 62), defBody (top 62), defScope (top 62), false⟩
def t_sure_from_of : DefT := ⟨"sure_from_of", ["rooms"], defArgs (top 63), defBody (top 63), defScope (top 63), false⟩
def t_check_thin : DefT := ⟨"check_thin", ["k", "rooms"], defArgs (top 68), defBody (top 68), defScope (top 68), false⟩
def t_check_plan : DefT := ⟨"check_plan", ["k", "rooms"], defArgs (top 69), defBody (top 69), defScope (top 69), false⟩
def t_plan_of : DefT := ⟨"plan_of", ["k", "rooms", "many", "found", "at", "row"], defArgs (top 70), defBody (top 70), defScope (top 70), false⟩
def t_plan : DefT := ⟨"plan", ["k", "rooms"], defArgs (top 71), defBody (top 71), defScope (top 71), false⟩
def t_code_of : DefT := ⟨"code_of", ["rooms", "room", "found", "left", "turn"], defArgs (top 72), defBody (top 72), defScope (top 72), false⟩
def t_parts_of : DefT := ⟨"parts_of", ["entry", "kind", "near", "far"], defArgs (top 73), defBody (top 73), defScope (top 73), false⟩
def t_shortest_of : DefT := ⟨"shortest_of", ["k", "rooms", "found", "entry", "ahead", "unit", "behind", "whole", "units"], defArgs (top 74), defBody (top 74), defScope (top 74), false⟩
def t_gaps_of : DefT := ⟨"gaps_of", ["entry", "whole", "ahead", "unit", "behind", "left", "units", "less", "found", "turn", "by"], defArgs (top 75), defBody (top 75), defScope (top 75), false⟩
def t_stretch_of : DefT := ⟨"stretch_of", ["k", "rooms", "room", "size", "told", "cells", "place", "gap"], defArgs (top 76), defBody (top 76), defScope (top 76), false⟩
def t_check_size : DefT := ⟨"check_size", ["k", "rooms", "size", "least"], defArgs (top 77), defBody (top 77), defScope (top 77), false⟩
def t_stretch : DefT := ⟨"stretch", ["k", "rooms", "room", "size"], defArgs (top 78), defBody (top 78), defScope (top 78), false⟩
def t_loud_digits : DefT := ⟨"loud_digits", ["many"], defArgs (top 82), defBody (top 82), defScope (top 82), false⟩
def t_size_of_unit : DefT := ⟨"size_of_unit", ["many"], defArgs (top 83), defBody (top 83), defScope (top 83), false⟩
def t_least_loud : DefT := ⟨"least_loud", ["many"], defArgs (top 84), defBody (top 84), defScope (top 84), false⟩
def t_loud_unit_of : DefT := ⟨"loud_unit_of", ["many", "room", "found", "left", "turn"], defArgs (top 85), defBody (top 85), defScope (top 85), false⟩
def t_loud_stretch_of : DefT := ⟨"loud_stretch_of", ["many", "room", "size", "unit", "units", "longer"], defArgs (top 86), defBody (top 86), defScope (top 86), false⟩
def t_check_loud : DefT := ⟨"check_loud", ["many", "room"], defArgs (top 87), defBody (top 87), defScope (top 87), false⟩
def t_loud_unit : DefT := ⟨"loud_unit", ["many", "room"], defArgs (top 88), defBody (top 88), defScope (top 88), false⟩
def t_loud_stretch : DefT := ⟨"loud_stretch", ["many", "room", "size"], defArgs (top 89), defBody (top 89), defScope (top 89), false⟩
def t_told_from_of : DefT := ⟨"told_from_of", ["many_quiet", "many_loud"], defArgs (top 93), defBody (top 93), defScope (top 93), false⟩
def t_told_shortest_of : DefT := ⟨"told_shortest_of", ["k", "many_quiet", "many_loud", "least"], defArgs (top 94), defBody (top 94), defScope (top 94), false⟩
def t_check_told_thin : DefT := ⟨"check_told_thin", ["k", "many_quiet", "many_loud", "least"], defArgs (top 95), defBody (top 95), defScope (top 95), false⟩
def t_told_from : DefT := ⟨"told_from", ["many_quiet", "many_loud"], defArgs (top 96), defBody (top 96), defScope (top 96), false⟩
def t_told_shortest : DefT := ⟨"told_shortest", ["k", "many_quiet", "many_loud"], defArgs (top 97), defBody (top 97), defScope (top 97), false⟩
def t_loud_rooms : DefT := ⟨"loud_rooms", ["scheme", "room"], defArgs (top 98), defBody (top 98), defScope (top 98), false⟩
def t_check_told_plan : DefT := ⟨"check_told_plan", ["scheme", "k", "quiet", "loud"], defArgs (top 99), defBody (top 99), defScope (top 99), false⟩
def t_room_stretch_of : DefT := ⟨"room_stretch_of", ["scheme", "k", "room", "size", "quiet", "loud"], defArgs (top 100), defBody (top 100), defScope (top 100), false⟩
def t_told_stretch : DefT := ⟨"told_stretch", ["scheme", "k", "room", "size", "quiet", "loud", "least"], defArgs (top 101), defBody (top 101), defScope (top 101), false⟩
def t_bound : DefT := ⟨"bound", ["k", "rooms", "size", "room"], defArgs (top 103), defBody (top 103), defScope (top 103), false⟩
def t_law_pool : DefT := ⟨"_law_pool", ["script", "k", "cell", "big", "mixed"], defArgs (top 105), defBody (top 105), defScope (top 105), false⟩
def t_law_take : DefT := ⟨"_law_take", ["jar", "top", "drawn"], defArgs (top 106), defBody (top 106), defScope (top 106), false⟩
def t_law_one : DefT := ⟨"_law_one", ["jar", "some"], defArgs (top 107), defBody (top 107), defScope (top 107), false⟩
def t_law_mixed : DefT := ⟨"_law_mixed", ["jar", "some", "waiting", "found", "go"], defArgs (top 108), defBody (top 108), defScope (top 108), false⟩
def t_law_is_whole : DefT := ⟨"_law_is_whole", ["thing"], defArgs (top 109), defBody (top 109), defScope (top 109), false⟩
def t_law_same : DefT := ⟨"_law_same", ["heard", "owed", "todo", "one", "due", "is_so", "i"], defArgs (top 110), defBody (top 110), defScope (top 110), false⟩
def t_law_pt_bits : DefT := ⟨"_law_pt_bits", ["number", "found"], defArgs (top 111), defBody (top 111), defScope (top 111), false⟩
def t_law_pt_code_size : DefT := ⟨"_law_pt_code_size", ["q"], defArgs (top 112), defBody (top 112), defScope (top 112), false⟩
def t_law_pt_code : DefT := ⟨"_law_pt_code", ["q", "room", "many"], defArgs (top 113), defBody (top 113), defScope (top 113), false⟩
def t_law_pt_sure_from : DefT := ⟨"_law_pt_sure_from", ["q"], defArgs (top 114), defBody (top 114), defScope (top 114), false⟩
def t_law_pt_loud_size : DefT := ⟨"_law_pt_loud_size", ["l"], defArgs (top 115), defBody (top 115), defScope (top 115), false⟩
def t_law_pt_loud_unit : DefT := ⟨"_law_pt_loud_unit", ["l", "room", "many", "found", "digit"], defArgs (top 116), defBody (top 116), defScope (top 116), false⟩
def t_law_pt_from : DefT := ⟨"_law_pt_from", ["q", "l"], defArgs (top 117), defBody (top 117), defScope (top 117), false⟩
def t_law_pt_gaps : DefT := ⟨"_law_pt_gaps", ["k", "q", "room", "share_now", "gap", "ahead"], defArgs (top 118), defBody (top 118), defScope (top 118), false⟩
def t_law_pt_shortest : DefT := ⟨"_law_pt_shortest", ["k", "q", "found", "c", "room", "ahead", "unit", "rear_gap", "period", "many", "rims"], defArgs (top 119), defBody (top 119), defScope (top 119), false⟩
def t_law_pt_told_shortest : DefT := ⟨"_law_pt_told_shortest", ["k", "q", "l", "u"], defArgs (top 120), defBody (top 120), defScope (top 120), false⟩
def t_law_pt_quiet_stretch : DefT := ⟨"_law_pt_quiet_stretch", ["k", "q", "room", "size", "ahead", "unit", "rear_gap", "tail", "signs_now", "period", "wanted", "many", "less", "gaps", "go", "cells", "gap", "cut"], defArgs (top 121), defBody (top 121), defScope (top 121), false⟩
def t_law_pt_loud_stretch : DefT := ⟨"_law_pt_loud_stretch", ["l", "room", "size", "unit", "many", "more", "cells", "go"], defArgs (top 122), defBody (top 122), defScope (top 122), false⟩
def t_law_pt_k : DefT := ⟨"_law_pt_k", ["jar", "q", "l"], defArgs (top 123), defBody (top 123), defScope (top 123), false⟩
def t_law_chain_of : DefT := ⟨"_law_chain_of", ["q", "l", "places", "many", "moves", "i"], defArgs (top 125), defBody (top 125), defScope (top 125), false⟩
def t_law_price_by : DefT := ⟨"_law_price_by", ["k", "q", "under"], defArgs (top 126), defBody (top 126), defScope (top 126), false⟩
def t_law_plan_by : DefT := ⟨"_law_plan_by", ["k", "q", "found", "room", "ahead", "unit", "rear_gap"], defArgs (top 127), defBody (top 127), defScope (top 127), false⟩
def t_law_quiet_right : DefT := ⟨"_law_quiet_right", ["jar", "scheme", "k", "q", "l", "size", "dots", "room", "cells"], defArgs (top 128), defBody (top 128), defScope (top 128), true⟩
def t_law_loud_right : DefT := ⟨"_law_loud_right", ["jar", "scheme", "k", "l", "size", "places", "number", "cells", "heard", "room"], defArgs (top 129), defBody (top 129), defScope (top 129), true⟩
def t_law_plan_right : DefT := ⟨"_law_plan_right", ["k", "q", "over", "under", "far", "greatest", "entry", "row", "cells", "dots"], defArgs (top 130), defBody (top 130), defScope (top 130), false⟩
def t_law_lowest : DefT := ⟨"_law_lowest", ["over", "under", "a", "b"], defArgs (top 131), defBody (top 131), defScope (top 131), false⟩
def t_law_doors_right : DefT := ⟨"_law_doors_right", ["jar", "scheme", "k", "q", "l", "least", "small", "room", "heard", "u", "bad"], defArgs (top 132), defBody (top 132), defScope (top 132), true⟩
def t_law : DefT := ⟨"law", ["script", "turn", "jar", "q", "l", "places", "scheme", "k", "least", "size", "x"], defArgs (top 133), defBody (top 133), defScope (top 133), false⟩
def ts0 : List DefT := [t_is_number, t_is_between, t_is_tuple_of, t_check_many, t_lowest, t_made_k, t_wrong_row, t_made_row, t_mean, t_density_of, t_density, t_is_rising, t_are_rooms, t_is_move, t_are_moves, t_wrong_machine, t_is_machine, t_flip, t_come_to, t_trim, t_is_scheme_machine, t_wrong_scheme, t_made_scheme, t_made_ts, t_spare_of, t_spare, t_middle_of, t_intervals, t_thin_rows, t_price_of]
def ts1 : List DefT := [t_price, t_long_price, t_size_of_code, t_sure_from_of, t_check_thin, t_check_plan, t_plan_of, t_plan, t_code_of, t_parts_of, t_shortest_of, t_gaps_of, t_stretch_of, t_check_size, t_stretch, t_loud_digits, t_size_of_unit, t_least_loud, t_loud_unit_of, t_loud_stretch_of, t_check_loud, t_loud_unit, t_loud_stretch, t_told_from_of, t_told_shortest_of, t_check_told_thin, t_told_from, t_told_shortest, t_loud_rooms, t_check_told_plan]
def ts2 : List DefT := [t_room_stretch_of, t_told_stretch, t_bound, t_law_pool, t_law_take, t_law_one, t_law_mixed, t_law_is_whole, t_law_same, t_law_pt_bits, t_law_pt_code_size, t_law_pt_code, t_law_pt_sure_from, t_law_pt_loud_size, t_law_pt_loud_unit, t_law_pt_from, t_law_pt_gaps, t_law_pt_shortest, t_law_pt_told_shortest, t_law_pt_quiet_stretch, t_law_pt_loud_stretch, t_law_pt_k, t_law_chain_of, t_law_price_by, t_law_plan_by, t_law_quiet_right, t_law_loud_right, t_law_plan_right, t_law_lowest, t_law_doors_right]
def ts3 : List DefT := [t_law]
def ts : List DefT := ts0 ++ ts1 ++ ts2 ++ ts3
def cns : List (Str × D) := [("MOST_K", (.int 60)), ("MOST_GAPS", (.int 24)), ("MOST_GAP", (.int 99)), ("MOST_LETTERS", (.int 4)), ("MOST_ROOMS_machines", (.int 40)), ("MOST_ROOMS_schemes", (.int 16)), ("MOST_TS", (.int 8)), ("MOST_T", (.int 60)), ("MOST_ROOMS_prices", (.int 30)), ("MOST_PLANNED", (.int 5)), ("MOST_SIZE", (.int 5000)), ("MOST_LESS", (.int 3)), ("MOST_LOUD", (.int 16)), ("HEAD", (.tuple [(.int 1), (.int 1), (.int 1), (.int 1), (.int 0)])), ("MOST_QUIET", (.int 16)), ("LEAST_LOUD_VIEW", (.int 12))]
def xns : List Str := ["BadK", "BadRow", "NoDots", "BadMany", "BadTs", "NoFit", "TooMany", "BadRoom", "TooThin", "BadSize", "BadScheme"]
def qs : List Pos := [⟨462, 8, 462, 12⟩, ⟨462, 17, 462, 26⟩, ⟨462, 28, 462, 38⟩, ⟨462, 39, 462, 40⟩, ⟨462, 42, 462, 49⟩, ⟨462, 28, 462, 50⟩, ⟨462, 16, 462, 51⟩, ⟨462, 54, 462, 63⟩, ⟨462, 65, 462, 75⟩, ⟨462, 76, 462, 77⟩, ⟨462, 79, 462, 86⟩, ⟨462, 65, 462, 87⟩, ⟨462, 53, 462, 88⟩, ⟨462, 15, 462, 89⟩, ⟨462, 8, 462, 89⟩, ⟨463, 8, 463, 12⟩, ⟨463, 15, 463, 19⟩, ⟨463, 24, 463, 33⟩, ⟨463, 35, 463, 45⟩, ⟨463, 46, 463, 47⟩, ⟨463, 49, 463, 56⟩, ⟨463, 35, 463, 57⟩, ⟨463, 23, 463, 58⟩, ⟨463, 22, 463, 59⟩, ⟨463, 15, 463, 59⟩, ⟨463, 8, 463, 59⟩, ⟨464, 16, 464, 19⟩, ⟨464, 16, 464, 24⟩, ⟨464, 26, 464, 30⟩, ⟨464, 35, 464, 39⟩, ⟨464, 41, 464, 47⟩, ⟨464, 35, 464, 47⟩, ⟨464, 51, 464, 55⟩, ⟨464, 59, 464, 65⟩, ⟨464, 25, 464, 66⟩, ⟨464, 16, 464, 67⟩, ⟨464, 69, 464, 70⟩, ⟨464, 69, 464, 75⟩, ⟨464, 15, 464, 76⟩, ⟨464, 8, 464, 76⟩, ⟨460, 16, 460, 22⟩, ⟨460, 24, 460, 28⟩, ⟨460, 24, 460, 30⟩, ⟨460, 15, 460, 31⟩, ⟨460, 8, 460, 31⟩, ⟨461, 11, 461, 18⟩, ⟨461, 4, 464, 76⟩, ⟨459, 4, 464, 76⟩]
def lcs : Scope := { kind := .function, names := [(".0", .local), ("word", .local), ("is_one", .local)], isGenerator := false, isCoroutine := false, more := [] }
def LT (pr : List FD) : LawT := { fs := ts, pr := pr, cn := cns, xn := xns, tn := tnames, cal := 90, ini := (⟨6, 8, 6, 12⟩, ⟨6, 8, 6, 17⟩, ⟨6, 20, 6, 24⟩, ⟨6, 8, 6, 24⟩), inA := defArgs (inClass (top 2) 0), inS := defScope (inClass (top 2) 0), pg := defArgs (top 124), sg := defScope (top 124), cs := lcs, n1 := "BadMany", n2 := "BadRoom", n3 := "BadSize", q := fun i => qs.getD i ⟨0, 0, 0, 0⟩ }
def nm0 : List Str := ["__name__", "Refused", "BadK", "BadRow", "NoDots", "BadMany", "BadTs", "NoFit", "TooMany", "BadRoom", "TooThin", "BadSize", "MOST_K", "MOST_GAPS", "MOST_GAP", "is_number", "is_between", "is_tuple_of", "check_many", "lowest", "made_k", "wrong_row", "made_row", "mean", "density_of", "density", "MOST_LETTERS", "MOST_ROOMS_machines", "is_rising", "are_rooms"]
def nm1 : List Str := ["is_move", "are_moves", "wrong_machine", "is_machine", "flip", "come_to", "trim", "BadScheme", "MOST_ROOMS_schemes", "is_scheme_machine", "wrong_scheme", "made_scheme", "MOST_TS", "MOST_T", "made_ts", "spare_of", "spare", "middle_of", "intervals", "thin_rows", "MOST_ROOMS_prices", "price_of", "price", "long_price", "size_of_code", "sure_from_of", "MOST_PLANNED", "MOST_SIZE", "MOST_LESS", "check_thin"]
def nm2 : List Str := ["check_plan", "plan_of", "plan", "code_of", "parts_of", "shortest_of", "gaps_of", "stretch_of", "check_size", "stretch", "MOST_LOUD", "HEAD", "loud_digits", "size_of_unit", "least_loud", "loud_unit_of", "loud_stretch_of", "check_loud", "loud_unit", "loud_stretch", "MOST_QUIET", "LEAST_LOUD_VIEW", "told_from_of", "told_shortest_of", "check_told_thin", "told_from", "told_shortest", "loud_rooms", "check_told_plan", "room_stretch_of"]
def nm3 : List Str := ["told_stretch", "bound", "_law_pool", "_law_take", "_law_one", "_law_mixed", "_law_is_whole", "_law_same", "_law_pt_bits", "_law_pt_code_size", "_law_pt_code", "_law_pt_sure_from", "_law_pt_loud_size", "_law_pt_loud_unit", "_law_pt_from", "_law_pt_gaps", "_law_pt_shortest", "_law_pt_told_shortest", "_law_pt_quiet_stretch", "_law_pt_loud_stretch", "_law_pt_k", "_law_told_by", "_law_chain_of", "_law_price_by", "_law_plan_by", "_law_quiet_right", "_law_loud_right", "_law_plan_right", "_law_lowest", "_law_doors_right"]
def nms : List Str := nm0 ++ nm1 ++ nm2 ++ nm3
abbrev Rw : PySem.W.OpenRow := PySem.W.OpenLaw.row PySem.Challenge.rw_toldquiet_k76_dots_of_long_stretches
abbrev Vw : Program := PySem.W.view Rw.prog [0, 133]
/-- the top's run is looked at in four parts -/
theorem runA (w : World) : ((HandSHeadRun.wholeF (fun p => HandSHeadRun.stepQ (HandSHeadRun.denQ HandSHeadRun.tabQ) p w) HandSHeadRun.fenceQ 30000 Rw.prog).map fun x => HandSHeadRun.looksF Rw.prog x.1.heap x.2.abs) = some true := by
  kernel_rfl
theorem runB (w : World) : ((HandSHeadRun.wholeF (fun p => HandSHeadRun.stepQ (HandSHeadRun.denQ HandSHeadRun.tabQ) p w) HandSHeadRun.fenceQ 30000 Rw.prog).map fun x => HandSHeadRun.seenQ Vw nms (importedModules Rw.prog.main.body) (fun s => PySem.W.xlAt Vw [] s && PySem.W.recOk Rw.toRowW.records s) x.2.abs) = some (PySem.W.openGood Vw nms) := by
  kernel_rfl
theorem runC (pr : List FD) (w : World) : ((HandSHeadRun.wholeF (fun p => HandSHeadRun.stepQ (HandSHeadRun.denQ HandSHeadRun.tabQ) p w) HandSHeadRun.fenceQ 30000 Rw.prog).map fun x => (obsL (LT pr) (HandSHeadRun.getT x.2)).1) = some true := by
  kernel_rfl
theorem runD (pr : List FD) (w : World) : ((HandSHeadRun.wholeF (fun p => HandSHeadRun.stepQ (HandSHeadRun.denQ HandSHeadRun.tabQ) p w) HandSHeadRun.fenceQ 30000 Rw.prog).map fun x => (obsL (LT pr) (HandSHeadRun.getT x.2)).2) = some ((LT pr).rows.map He.DefD.val) := by
  kernel_rfl
end TI

set_option Elab.async false
set_option autoImplicit false
set_option maxRecDepth 100000
set_option maxHeartbeats 0
set_option linter.all false
/-! TV: how a tree is evaluated, step by step (for simp). -/
namespace TI
open PySem
section
variable (Φ : Fun) (C : List D) (e : En) (md : Md) (L : Nat)
@[simp] theorem ev_var (i : Nat) : evalE Φ C (.var i) md e = (match e[i]? with
      | some (.val d) => .ok (d, .val) e
      | some (.valx d) => .ok (d, .xt) e
      | some (.valy d) => .ok (d, .x1) e
      | some (.own xs) => .ok (.list xs, .br i) e
      | some (.io xs) => .ok (.list xs, .br i) e
      | _ => .stuck) := id rfl
@[simp] theorem ev_glob (i : Nat) : evalE Φ C (.glob i) md e = (match C[i]? with
      | some d => .ok (d, .val) e
      | none => .stuck) := id rfl
@[simp] theorem ev_lit (d : D) : evalE Φ C (.lit d) md e = .ok (d, .val) e := id rfl
@[simp] theorem ev_bin (o : BinO) (a b : IE) : evalE Φ C (.bin o a b) md e = (evalE Φ C a .v e).bind fun x e1 => match okTwo x b with
      | true => (evalE Φ C b .v e1).bind fun y e2 => match binOp o x.1 y.1 with
        | some d => .ok (d, newF d) e2
        | none => .stuck
      | false => .stuck := id rfl
@[simp] theorem ev_neg (a : IE) : evalE Φ C (.neg a) md e = (evalE Φ C a .v e).bind fun x e1 => match x.1 with
      | .int i => .ok (.int (-i), .val) e1
      | _ => .stuck := id rfl
@[simp] theorem ev_andt (a b : IE) : evalE Φ C (.andE a b) .t e = (asB (evalE Φ C a .t e)).bind fun c e1 => match c with
      | true => (asB (evalE Φ C b .t e1)).bind fun c2 e2 => .ok (.bool c2, .val) e2
      | false => .ok (.bool false, .val) e1 := id rfl
@[simp] theorem ev_ort (a b : IE) : evalE Φ C (.orE a b) .t e = (asB (evalE Φ C a .t e)).bind fun c e1 => match c with
      | true => .ok (.bool true, .val) e1
      | false => (asB (evalE Φ C b .t e1)).bind fun c2 e2 => .ok (.bool c2, .val) e2 := id rfl
@[simp] theorem ev_andv (a b : IE) : evalE Φ C (.andE a b) .v e = (evalE Φ C a .v e).bind fun x e1 => match x.1 with
      | .bool true => evalE Φ C b .v e1
      | .bool false => .ok (.bool false, .val) e1
      | _ => .stuck := id rfl
@[simp] theorem ev_orv (a b : IE) : evalE Φ C (.orE a b) .v e = (evalE Φ C a .v e).bind fun x e1 => match x.1 with
      | .bool true => .ok (.bool true, .val) e1
      | .bool false => evalE Φ C b .v e1
      | _ => .stuck := id rfl
@[simp] theorem ev_nott (a : IE) : evalE Φ C (.notE a) .t e = (asB (evalE Φ C a .t e)).bind fun b e1 => .ok (.bool (!b), .val) e1 := id rfl
@[simp] theorem ev_notv (a : IE) : evalE Φ C (.notE a) .v e = (asB (evalE Φ C a .v e)).bind fun b e1 => .ok (.bool (!b), .val) e1 := id rfl
@[simp] theorem ev_ite (t a b : IE) : evalE Φ C (.ite t a b) md e = (asB (evalE Φ C t .t e)).bind fun c e1 => match c with
      | true => (keepR (evalE Φ C a .v e1)).bind fun d e2 => .ok (d, .val) e2
      | false => (keepR (evalE Φ C b .v e1)).bind fun d e2 => .ok (d, .val) e2 := id rfl
@[simp] theorem ev_cmp (o : CmpO) (a b : IE) : evalE Φ C (.cmp o a b) md e = (evalE Φ C a .v e).bind fun x e1 => match okTwo x b with
      | true => (evalE Φ C b .v e1).bind fun y e2 => match cmpOp o x.1 y.1 with
        | some d => .ok (.bool d, .val) e2
        | none => .stuck
      | false => .stuck := id rfl
@[simp] theorem ev_chain (o o' : CmpO) (a b c : IE) : evalE Φ C (.chain o o' a b c) md e = (evalE Φ C a .v e).bind fun x e1 => match okTwo x b with
      | true => (evalE Φ C b .v e1).bind fun y e2 => match cmpOp o x.1 y.1 with
        | some true => (match okTwo y c with
          | true => (evalE Φ C c .v e2).bind fun z e3 => match cmpOp o' y.1 z.1 with
            | some d => .ok (.bool d, .val) e3
            | none => .stuck
          | false => .stuck)
        | some false => .ok (.bool false, .val) e2
        | none => .stuck
      | false => .stuck := id rfl
@[simp] theorem ev_tup (es : IE) : evalE Φ C (.tup es) md e = (evalK Φ C es e).bind fun ds e1 => if ds.length ≤ lim then .ok (.tuple ds, .val) e1 else .stuck := id rfl
@[simp] theorem ev_lst (es : IE) : evalE Φ C (.lst es) md e = (evalK Φ C es e).bind fun ds e1 => if ds.length ≤ lim then .ok (.list ds, .fr) e1 else .stuck := id rfl
@[simp] theorem ev_tmul (es k : IE) : evalE Φ C (.tmul es k) md e = (evalK Φ C es e).bind fun ds e1 => if ds.length ≤ lim then (evalE Φ C k .v e1).bind fun x e2 => (match x.1 with
      | .int n => if inR n = true ∧ ds.length * n.toNat ≤ lim then .ok (.tuple (List.replicate n.toNat ds).flatten, .xt) e2 else .stuck
      | _ => .stuck) else .stuck := id rfl
@[simp] theorem ev_ix (a b : IE) : evalE Φ C (.ix a b) md e = (evalE Φ C a .v e).bind fun x e1 => match okTwo x b with
      | true => (evalE Φ C b .v e1).bind fun y e2 => match x.1, y.1 with
        | .list xs, .int i => (match itemAt xs i with
          | some d => .ok (d, .val) e2
          | none => .stuck)
        | .tuple xs, .int i => (match itemAt xs i with
          | some d => .ok (d, .val) e2
          | none => .stuck)
        | _, _ => .stuck
      | false => .stuck := id rfl
@[simp] theorem ev_slice (a lo hi : IE) : evalE Φ C (.slice a lo hi) md e = (evalE Φ C a .v e).bind fun x e1 => match okTwo x lo && okTwo x hi with
      | true => (optE lo (evalE Φ C lo .v e1) e1).bind fun l e2 => (optE hi (evalE Φ C hi .v e2) e2).bind fun h e3 => match x.1 with
        | .list xs => .ok (.list (cut xs l h), .fr) e3
        | .tuple xs => .ok (.tuple (cut xs l h), .val) e3
        | _ => .stuck
      | false => .stuck := id rfl
@[simp] theorem ev_rev (a : IE) : evalE Φ C (.rev a) md e = (evalE Φ C a .v e).bind fun x e1 => match x.1 with
      | .list xs => .ok (.list xs.reverse, .fr) e1
      | .tuple xs => .ok (.tuple xs.reverse, .val) e1
      | _ => .stuck := id rfl
@[simp] theorem ev_call (f : Nat) (es : IE) : evalE Φ C (.call f es) md e = (evalA Φ C es e).bind fun ss e1 => match Φ f ss with
      | .ok x e2 => (match backIo es e2 e1, x.2.isBr with
        | some e3, false => .ok x e3
        | _, _ => .stuck)
      | .exc c d _ => (match hasIo es with
        | true => .stuck
        | false => .exc c d e1)
      | .stuck => .stuck := id rfl
@[simp] theorem ev_bi (b : BI) (es : IE) : evalE Φ C (.bi b es) md e = (evalB Φ C es e).bind fun ds e1 => match biOp b ds with
      | some x => .ok x e1
      | none => .stuck := id rfl
@[simp] theorem ev_mt (k : MT) (o es : IE) : evalE Φ C (.mt k o es) md e = (evalE Φ C o .v e).bind fun x e1 => match okTwo x es && mtOk k x with
      | true => (evalB Φ C es e1).bind fun ds e2 => match mtOp k x.1 ds with
        | some d => .ok (d, .val) e2
        | none => .stuck
      | false => .stuck := id rfl
@[simp] theorem ev_pop (i : Nat) : evalE Φ C (.pop i) md e = (match e[i]? with
      | some (.own xs) => (match xs.getLast? with
        | some d => .ok (d, .val) (e.set i (.own xs.dropLast))
        | none => .stuck)
      | some (.io xs) => (match xs.getLast? with
        | some d => .ok (d, .val) (e.set i (.io xs.dropLast))
        | none => .stuck)
      | _ => .stuck) := id rfl
@[simp] theorem ev_popAt (i : Nat) (k : IE) : evalE Φ C (.popAt i k) md e = (match isHeld e i with
    | true => (evalE Φ C k .v e).bind fun x e1 => popR e1 i x.1
    | false => .stuck) := id rfl
@[simp] theorem ev_isi (a : IE) (ty : TyN) : evalE Φ C (.isi a ty) md e = (evalE Φ C a .v e).bind fun x e1 => match isDict x.1 with
      | true => .stuck
      | false => .ok (.bool (isTy ty x.1), .val) e1 := rfl
/-- one round of a comprehension -/
def compF (tg ifs elt : IE) (own : List Nat) (d : D) (e2 : En) : Out (Option D) := match bindT tg d e2 with
            | some e3 => (tstE ifs (evalE Φ C ifs .t e3) e3).bind fun b e4 => match b with
              | true => (keepR (evalE Φ C elt .v e4)).bind fun y e5 => .ok (some y) (wipeE e5 own)
              | false => .ok none (wipeE e4 own)
            | none => .stuck
@[simp] theorem ev_comp (tg it ifs elt : IE) (own : List Nat) : evalE Φ C (.comp tg it ifs elt own) md e = (evalE Φ C it .i e).bind fun x e1 => match itemsOf x.1 with
      | some xs => if xs.length ≤ lim ∧ noIo e1 own = true then
          (noExc (compL (compF Φ C tg ifs elt own) xs (wipeE e1 own))).bind fun ys e6 => .ok (.list ys, .fr) (backE e1 e6 own)
          else .stuck
      | none => .stuck := id rfl
@[simp] theorem ev_range1 (a : IE) : evalE Φ C (.range1 a) .i e = (evalE Φ C a .v e).bind fun x e1 => match x.1 with
      | .int n => if inR n = true then .ok (.list (rangeL 0 n.toNat), .val) e1 else .stuck
      | _ => .stuck := id rfl
@[simp] theorem ev_range2 (a b : IE) : evalE Φ C (.range2 a b) .i e = (evalE Φ C a .v e).bind fun x e1 => (evalE Φ C b .v e1).bind fun y e2 => match x.1, y.1 with
      | .int i, .int j => if (inR i && inR j) = true then .ok (.list (rangeL i (j - i).toNat), .val) e2 else .stuck
      | _, _ => .stuck := id rfl
@[simp] theorem ev_enumr (a : IE) : evalE Φ C (.enumr a) .i e = (evalE Φ C a .v e).bind fun x e1 => match itemsOf x.1 with
      | some xs => .ok (.list (enumL 0 xs), x.2) e1
      | none => .stuck := id rfl
@[simp] theorem ev_zipp (a b : IE) : evalE Φ C (.zipp a b) .i e = (evalE Φ C a .v e).bind fun x e1 => match okTwo x b with
      | true => (evalE Φ C b .v e1).bind fun y e2 => match x.1, y.1 with
        | .list xs, .list ys => .ok (.list (zipL xs ys), if x.2.isBr || y.2.isBr then .br 0 else .val) e2
        | .tuple xs, .tuple ys => .ok (.list (zipL xs ys), .val) e2
        | _, _ => .stuck
      | false => .stuck := id rfl
@[simp] theorem ev_told (ns : List (Nat × Str)) (a : IE) : evalE Φ C (.told ns a) md e = (match keepR (evalE Φ C a .v e) with
      | .ok d e1 => .ok (.tuple [.str "told", d], .val) e1
      | .exc c d e1 => (match ns.lookup c with
        | some z => .ok (.tuple [.str z, d], .val) e1
        | none => .stuck)
      | .stuck => .stuck) := id rfl
@[simp] theorem ev_tup1 (a : IE) (i : Nat) : evalE Φ C (.tup1 a i) md e = (keepR (evalE Φ C a .v e)).bind fun d e1 => match e1[i]? with
      | some (.valx x) => .ok (.tuple [d, x], .x1) e1
      | _ => .stuck := id rfl
@[simp] theorem ev_ix1 (i : Nat) : evalE Φ C (.ix1 i) md e = (match e[i]? with
      | some (.valy (.tuple [_, x])) => .ok (x, .xt) e
      | _ => .stuck) := id rfl
@[simp] theorem ev_tupx (a : IE) : evalE Φ C (.tupx a) md e = (evalE Φ C a .v e).bind fun x e1 => match x.1 with
      | .list xs => .ok (.tuple xs, .xt) e1
      | _ => .stuck := id rfl
@[simp] theorem ek_nil : evalK Φ C .nil e = .ok [] e := id rfl
@[simp] theorem ek_cons (a r : IE) : evalK Φ C (.cons a r) e = (keepR (evalE Φ C a .v e)).bind fun d e1 => (evalK Φ C r e1).bind fun ds e2 => .ok (d :: ds) e2 := id rfl
@[simp] theorem eb_nil : evalB Φ C .nil e = .ok [] e := id rfl
@[simp] theorem eb_cons (a r : IE) : evalB Φ C (.cons a r) e = (evalE Φ C a .v e).bind fun x e1 => match okTwo x r with
      | true => (evalB Φ C r e1).bind fun ds e2 => .ok (x.1 :: ds) e2
      | false => .stuck := id rfl
@[simp] theorem ea_nil : evalA Φ C .nil e = .ok [] e := id rfl
@[simp] theorem ea_var (i : Nat) (r : IE) : evalA Φ C (.cons (.var i) r) e = (keepX (evalE Φ C (.var i) .v e)).bind fun s e1 => (evalA Φ C r e1).bind fun ss e2 => .ok (s :: ss) e2 := id rfl
@[simp] theorem ea_glob (i : Nat) (r : IE) : evalA Φ C (.cons (.glob i) r) e = (keepX (evalE Φ C (.glob i) .v e)).bind fun s e1 => (evalA Φ C r e1).bind fun ss e2 => .ok (s :: ss) e2 := id rfl
@[simp] theorem ea_lit (d : D) (r : IE) : evalA Φ C (.cons (.lit d) r) e = (keepX (evalE Φ C (.lit d) .v e)).bind fun s e1 => (evalA Φ C r e1).bind fun ss e2 => .ok (s :: ss) e2 := id rfl
@[simp] theorem ea_bin (o : BinO) (a b : IE) (r : IE) : evalA Φ C (.cons (.bin o a b) r) e = (keepX (evalE Φ C (.bin o a b) .v e)).bind fun s e1 => (evalA Φ C r e1).bind fun ss e2 => .ok (s :: ss) e2 := id rfl
@[simp] theorem ea_neg (a : IE) (r : IE) : evalA Φ C (.cons (.neg a) r) e = (keepX (evalE Φ C (.neg a) .v e)).bind fun s e1 => (evalA Φ C r e1).bind fun ss e2 => .ok (s :: ss) e2 := id rfl
@[simp] theorem ea_andE (a b : IE) (r : IE) : evalA Φ C (.cons (.andE a b) r) e = (keepX (evalE Φ C (.andE a b) .v e)).bind fun s e1 => (evalA Φ C r e1).bind fun ss e2 => .ok (s :: ss) e2 := id rfl
@[simp] theorem ea_orE (a b : IE) (r : IE) : evalA Φ C (.cons (.orE a b) r) e = (keepX (evalE Φ C (.orE a b) .v e)).bind fun s e1 => (evalA Φ C r e1).bind fun ss e2 => .ok (s :: ss) e2 := id rfl
@[simp] theorem ea_notE (a : IE) (r : IE) : evalA Φ C (.cons (.notE a) r) e = (keepX (evalE Φ C (.notE a) .v e)).bind fun s e1 => (evalA Φ C r e1).bind fun ss e2 => .ok (s :: ss) e2 := id rfl
@[simp] theorem ea_ite (a b c : IE) (r : IE) : evalA Φ C (.cons (.ite a b c) r) e = (keepX (evalE Φ C (.ite a b c) .v e)).bind fun s e1 => (evalA Φ C r e1).bind fun ss e2 => .ok (s :: ss) e2 := id rfl
@[simp] theorem ea_cmp (o : CmpO) (a b : IE) (r : IE) : evalA Φ C (.cons (.cmp o a b) r) e = (keepX (evalE Φ C (.cmp o a b) .v e)).bind fun s e1 => (evalA Φ C r e1).bind fun ss e2 => .ok (s :: ss) e2 := id rfl
@[simp] theorem ea_chain (o q : CmpO) (a b c : IE) (r : IE) : evalA Φ C (.cons (.chain o q a b c) r) e = (keepX (evalE Φ C (.chain o q a b c) .v e)).bind fun s e1 => (evalA Φ C r e1).bind fun ss e2 => .ok (s :: ss) e2 := id rfl
@[simp] theorem ea_tup (a : IE) (r : IE) : evalA Φ C (.cons (.tup a) r) e = (keepX (evalE Φ C (.tup a) .v e)).bind fun s e1 => (evalA Φ C r e1).bind fun ss e2 => .ok (s :: ss) e2 := id rfl
@[simp] theorem ea_lst (a : IE) (r : IE) : evalA Φ C (.cons (.lst a) r) e = (keepX (evalE Φ C (.lst a) .v e)).bind fun s e1 => (evalA Φ C r e1).bind fun ss e2 => .ok (s :: ss) e2 := id rfl
@[simp] theorem ea_tmul (a b : IE) (r : IE) : evalA Φ C (.cons (.tmul a b) r) e = (keepX (evalE Φ C (.tmul a b) .v e)).bind fun s e1 => (evalA Φ C r e1).bind fun ss e2 => .ok (s :: ss) e2 := id rfl
@[simp] theorem ea_ix (a b : IE) (r : IE) : evalA Φ C (.cons (.ix a b) r) e = (keepX (evalE Φ C (.ix a b) .v e)).bind fun s e1 => (evalA Φ C r e1).bind fun ss e2 => .ok (s :: ss) e2 := id rfl
@[simp] theorem ea_slice (a b c : IE) (r : IE) : evalA Φ C (.cons (.slice a b c) r) e = (keepX (evalE Φ C (.slice a b c) .v e)).bind fun s e1 => (evalA Φ C r e1).bind fun ss e2 => .ok (s :: ss) e2 := id rfl
@[simp] theorem ea_rev (a : IE) (r : IE) : evalA Φ C (.cons (.rev a) r) e = (keepX (evalE Φ C (.rev a) .v e)).bind fun s e1 => (evalA Φ C r e1).bind fun ss e2 => .ok (s :: ss) e2 := id rfl
@[simp] theorem ea_call (f : Nat) (a : IE) (r : IE) : evalA Φ C (.cons (.call f a) r) e = (keepX (evalE Φ C (.call f a) .v e)).bind fun s e1 => (evalA Φ C r e1).bind fun ss e2 => .ok (s :: ss) e2 := id rfl
@[simp] theorem ea_bi (b : BI) (a : IE) (r : IE) : evalA Φ C (.cons (.bi b a) r) e = (keepX (evalE Φ C (.bi b a) .v e)).bind fun s e1 => (evalA Φ C r e1).bind fun ss e2 => .ok (s :: ss) e2 := id rfl
@[simp] theorem ea_mt (m : MT) (a b : IE) (r : IE) : evalA Φ C (.cons (.mt m a b) r) e = (keepX (evalE Φ C (.mt m a b) .v e)).bind fun s e1 => (evalA Φ C r e1).bind fun ss e2 => .ok (s :: ss) e2 := id rfl
@[simp] theorem ea_isi (a : IE) (t : TyN) (r : IE) : evalA Φ C (.cons (.isi a t) r) e = (keepX (evalE Φ C (.isi a t) .v e)).bind fun s e1 => (evalA Φ C r e1).bind fun ss e2 => .ok (s :: ss) e2 := id rfl
@[simp] theorem ea_comp (a b c d : IE) (l : List Nat) (r : IE) : evalA Φ C (.cons (.comp a b c d l) r) e = (keepX (evalE Φ C (.comp a b c d l) .v e)).bind fun s e1 => (evalA Φ C r e1).bind fun ss e2 => .ok (s :: ss) e2 := id rfl
@[simp] theorem ea_told (ns : List (Nat × Str)) (a : IE) (r : IE) : evalA Φ C (.cons (.told ns a) r) e = (keepX (evalE Φ C (.told ns a) .v e)).bind fun s e1 => (evalA Φ C r e1).bind fun ss e2 => .ok (s :: ss) e2 := id rfl
@[simp] theorem ea_tup1 (a : IE) (i : Nat) (r : IE) : evalA Φ C (.cons (.tup1 a i) r) e = (keepX (evalE Φ C (.tup1 a i) .v e)).bind fun s e1 => (evalA Φ C r e1).bind fun ss e2 => .ok (s :: ss) e2 := id rfl
@[simp] theorem ea_ix1 (i : Nat) (r : IE) : evalA Φ C (.cons (.ix1 i) r) e = (keepX (evalE Φ C (.ix1 i) .v e)).bind fun s e1 => (evalA Φ C r e1).bind fun ss e2 => .ok (s :: ss) e2 := id rfl
@[simp] theorem ea_tupx (a : IE) (r : IE) : evalA Φ C (.cons (.tupx a) r) e = (keepX (evalE Φ C (.tupx a) .v e)).bind fun s e1 => (evalA Φ C r e1).bind fun ss e2 => .ok (s :: ss) e2 := id rfl
@[simp] theorem ea_pop (i : Nat) (r : IE) : evalA Φ C (.cons (.pop i) r) e = (keepX (evalE Φ C (.pop i) .v e)).bind fun s e1 => (evalA Φ C r e1).bind fun ss e2 => .ok (s :: ss) e2 := id rfl
@[simp] theorem ea_popAt (i : Nat) (a : IE) (r : IE) : evalA Φ C (.cons (.popAt i a) r) e = (keepX (evalE Φ C (.popAt i a) .v e)).bind fun s e1 => (evalA Φ C r e1).bind fun ss e2 => .ok (s :: ss) e2 := id rfl
@[simp] theorem ea_io (i : Nat) (r : IE) : evalA Φ C (.cons (.ioarg i) r) e = (match isHeld e i with
        | true => (evalA Φ C r e).bind fun ss e1 => (match e1[i]?, ioIn i r with
          | some (.own xs), false => .ok (.io xs :: ss) e1
          | some (.io xs), false => .ok (.io xs :: ss) e1
          | _, _ => .stuck)
        | false => .stuck) := id rfl
@[simp] theorem ex_nil : execS Φ C L .nil e = .next e := id rfl
@[simp] theorem ex_cons (a r : IS) : execS Φ C L (.cons a r) e = (match execS Φ C L a e with
    | .next e1 => execS Φ C L r e1
    | o => o) := id rfl
@[simp] theorem ex_expr (a : IE) : execS Φ C L (.expr a) e = (evalE Φ C a .v e).s fun _ e1 => .next e1 := id rfl
@[simp] theorem ex_set (i : Nat) (a : IE) : execS Φ C L (.set i a) e = (holdR (evalE Φ C a .v e)).s fun x e1 => optS (putS e1 i (slotOf x)) := id rfl
@[simp] theorem ex_par (i j : Nat) (a b : IE) : execS Φ C L (.par i j a b) e = (holdR (evalE Φ C a .v e)).s fun x e1 => (holdR (evalE Φ C b .v e1)).s fun y e2 =>
      optS ((putS e2 i (slotOf x)).bind fun e3 => putS e3 j (slotOf y)) := id rfl
@[simp] theorem ex_par3 (i j k : Nat) (a b c : IE) : execS Φ C L (.par3 i j k a b c) e = (holdR (evalE Φ C a .v e)).s fun x e1 => (holdR (evalE Φ C b .v e1)).s fun y e2 => (holdR (evalE Φ C c .v e2)).s fun z e3 =>
      (match x.2, y.2 with
        | .val, .val => optS ((putS e3 i (.val x.1)).bind fun e4 => (putS e4 j (.val y.1)).bind fun e5 => putS e5 k (slotOf z))
        | _, _ => .stuck) := id rfl
@[simp] theorem ex_unpack (tg a : IE) : execS Φ C L (.unpack tg a) e = (evalE Φ C a .v e).s fun x e1 => match tg with
      | .tup _ => optS (bindT tg x.1 e1)
      | _ => .stuck := id rfl
@[simp] theorem ex_setix (i : Nat) (k v : IE) : execS Φ C L (.setix i k v) e = (keepR (evalE Φ C v .v e)).bindS fun d e1 => match isHeld e1 i with
      | true => (evalE Φ C k .v e1).s fun y e2 => (match y.1 with
        | .int j => optS (modL e2 i fun xs => (place xs.length j).map fun p => xs.set p d)
        | _ => .stuck)
      | false => .stuck := id rfl
@[simp] theorem ex_setsl (i : Nat) (lo hi v : IE) : execS Φ C L (.setsl i lo hi v) e = (evalE Φ C v .v e).s fun x e1 => match x.1, isHeld e1 i with
      | .tuple ys, true => (optE lo (evalE Φ C lo .v e1) e1).bindS fun l e2 => (optE hi (evalE Φ C hi .v e2) e2).bindS fun h e3 => optS (modL e3 i fun xs => spliceL xs l h ys)
      | _, _ => .stuck := id rfl
@[simp] theorem ex_app (i : Nat) (a : IE) : execS Φ C L (.app i a) e = (match isHeld e i with
      | true => (keepR (evalE Φ C a .v e)).bindS fun d e1 => optS (modL e1 i fun xs => if xs.length < lim then some (xs ++ [d]) else none)
      | false => .stuck) := id rfl
@[simp] theorem ex_ext (i : Nat) (a : IE) : execS Φ C L (.ext i a) e = (match isHeld e i with
      | true => (evalE Φ C a .v e).s fun x e1 => (match itemsOf x.1 with
        | some ys => optS (modL e1 i fun xs => if xs.length + ys.length ≤ lim then some (xs ++ ys) else none)
        | none => .stuck)
      | false => .stuck) := id rfl
@[simp] theorem ex_ret (a : IE) : execS Φ C L (.ret a) e = (retR (evalE Φ C a .v e)).s fun x e1 => .ret x e1 := id rfl
@[simp] theorem ex_retN : execS Φ C L .retN e = .ret (.none, .val) e := id rfl
@[simp] theorem ex_ite (t : IE) (a b : IS) : execS Φ C L (.ite t a b) e = (asB (evalE Φ C t .t e)).bindS fun c e1 => match c with
      | true => execS Φ C L a e1
      | false => execS Φ C L b e1 := rfl
/-- one round of a for -/
def forF (tg : IE) (body : IS) (x : D) (e2 : En) : SOut := match bindT tg x e2 with
          | some e3 => execS Φ C L body e3
          | none => .stuck
@[simp] theorem ex_forr (tg it : IE) (body : IS) : execS Φ C L (.forr tg it body) e = (keepI it (evalE Φ C it .i e)).bindS fun d e1 => match itemsOf d with
      | some xs => if xs.length ≤ lim then forL (forF Φ C L tg body) xs e1 else .stuck
      | none => .stuck := rfl
/-- a while -/
def whilW (t : IE) (body : IS) : Nat → En → SOut := whileL (fun e1 => asB (evalE Φ C t .t e1)) (fun e1 => execS Φ C L body e1)
@[simp] theorem ex_whil (t : IE) (body : IS) : execS Φ C L (.whil t body) e = whilW Φ C L t body L e := id rfl
theorem whilW_s (t : IE) (body : IS) (n : Nat) : whilW Φ C L t body (n + 1) e = (asB (evalE Φ C t .t e)).bindS fun c e1 => match c with
    | false => .next e1
    | true => (match execS Φ C L body e1 with
      | .next e2 => whilW Φ C L t body n e2
      | .cont e2 => whilW Φ C L t body n e2
      | .brk e2 => .next e2
      | .ret x e2 => .ret x e2
      | .exc c d e2 => .exc c d e2
      | .stuck => .stuck) := rfl
@[simp] theorem ex_raise (c : Nat) (a : IE) : execS Φ C L (.raise c a) e = (keepR (evalE Φ C a .v e)).bindS fun d e1 => .exc c d e1 := id rfl
@[simp] theorem ex_pass : execS Φ C L .pass e = .next e := id rfl
@[simp] theorem ex_brk : execS Φ C L .brk e = .brk e := id rfl
@[simp] theorem ex_cont : execS Φ C L .cont e = .cont e := id rfl
end
section
variable (a b : Int) (d x y : D) (xs ys : List D) (t : IE) (i : Nat)
@[simp] theorem c_le : cmpOp .le (.int a) (.int b) = some (decide (a ≤ b)) := id rfl
@[simp] theorem c_lt : cmpOp .lt (.int a) (.int b) = some (decide (a < b)) := id rfl
@[simp] theorem c_ge : cmpOp .ge (.int a) (.int b) = some (decide (b ≤ a)) := id rfl
@[simp] theorem c_gt : cmpOp .gt (.int a) (.int b) = some (decide (b < a)) := id rfl
@[simp] theorem c_eq : cmpOp .eq (.int a) (.int b) = some (decide (a = b)) := id rfl
@[simp] theorem c_ne : cmpOp .ne (.int a) (.int b) = some (!decide (a = b)) := id rfl
@[simp] theorem c_is : cmpOp .is d .none = some (isNone d) := by cases d <;> rfl
@[simp] theorem c_isnot : cmpOp .isnot d .none = some (!isNone d) := by cases d <;> rfl
@[simp] theorem n_none : isNone .none = true := id rfl
@[simp] theorem n_int : isNone (.int a) = false := id rfl
@[simp] theorem n_tup : isNone (.tuple xs) = false := id rfl
@[simp] theorem b_add : binOp .add (.int a) (.int b) = some (.int (a + b)) := id rfl
@[simp] theorem b_sub : binOp .sub (.int a) (.int b) = some (.int (a - b)) := id rfl
theorem b_mul (h : (small a || small b) = true) : binOp .mul (.int a) (.int b) = some (.int (a * b)) := if_pos h
theorem b_mulR (h : small b = true) : binOp .mul (.int a) (.int b) = some (.int (a * b)) := if_pos (by rw [h, Bool.or_true])
theorem b_mulL (h : small a = true) : binOp .mul (.int a) (.int b) = some (.int (a * b)) := if_pos (by rw [h, Bool.true_or])
theorem b_mod (h : 0 < b) : binOp .mod (.int a) (.int b) = some (.int (a % b)) := if_pos h
theorem b_div (h : 0 < b ∧ b.natAbs < 1073741824) : binOp .fdiv (.int a) (.int b) = some (.int (a / b)) := if_pos h
@[simp] theorem o_val : okTwo (d, .val) t = true := id rfl
@[simp] theorem o_xt : okTwo (d, .xt) t = true := id rfl
@[simp] theorem o_x1 : okTwo (d, .x1) t = true := id rfl
@[simp] theorem o_fr : okTwo (d, .fr) t = true := id rfl
@[simp] theorem o_br : okTwo (d, .br i) t = pure t := id rfl
@[simp] theorem r_val : Fl.isBr .val = false := id rfl
@[simp] theorem r_xt : Fl.isBr .xt = false := id rfl
@[simp] theorem r_x1 : Fl.isBr .x1 = false := id rfl
@[simp] theorem r_fr : Fl.isBr .fr = false := id rfl
@[simp] theorem r_br : Fl.isBr (.br i) = true := id rfl
@[simp] theorem t_bool (b : Bool) : truth (.bool b) = some b := id rfl
@[simp] theorem t_list : truth (.list xs) = some (!xs.isEmpty) := id rfl
@[simp] theorem t_none : truth .none = some false := id rfl
@[simp] theorem d_int : isDict (.int a) = false := id rfl
@[simp] theorem d_bool (b : Bool) : isDict (.bool b) = false := id rfl
@[simp] theorem d_none : isDict .none = false := id rfl
@[simp] theorem d_str (s : Str) : isDict (.str s) = false := id rfl
@[simp] theorem d_tup : isDict (.tuple xs) = false := id rfl
@[simp] theorem d_list : isDict (.list xs) = false := id rfl
end
section
variable {α β : Type} (e : En) (a : Int) (c i : Nat) (d x y : D) (xs ys : List D)
@[simp ↓] theorem ob_def (x : Out α) (f : α → En → Out β) : x.bind f = (match x with
  | .ok a e => f a e
  | .exc c d e => .exc c d e
  | .stuck => .stuck) := id rfl
@[simp ↓] theorem os_def (x : Out α) (f : α → En → SOut) : x.bindS f = (match x with
  | .ok a e => f a e
  | .exc c d e => .exc c d e
  | .stuck => .stuck) := id rfl
@[simp ↓] theorem oss_def (x : Out (D × Fl)) (f : D × Fl → En → SOut) : x.s f = (match x with
  | .ok a e => f a e
  | .exc c d e => .exc c d e
  | .stuck => .stuck) := id rfl
@[simp ↓] theorem asB_def (r : Out (D × Fl)) : asB r = (match r with
  | .ok x e => (match truth x.1 with
    | some b => .ok b e
    | none => .stuck)
  | .exc c d e => .exc c d e
  | .stuck => .stuck) := by cases r <;> rfl
@[simp] theorem kr_val : keepR (.ok (d, .val) e) = .ok d e := id rfl
@[simp] theorem kr_xt : keepR (.ok (d, .xt) e) = .ok d e := id rfl
@[simp] theorem kr_x1 : keepR (.ok (d, .x1) e) = .ok d e := id rfl
@[simp] theorem kr_fr : keepR (.ok (d, .fr) e) = .ok d e := id rfl
@[simp] theorem kr_br : keepR (.ok (d, .br i) e) = (match e[i]? with
      | some (.own xs) => .ok (.list xs) (e.set i (.val (.list xs)))
      | _ => .stuck) := id rfl
@[simp] theorem kr_exc : keepR (.exc c d e) = .exc c d e := id rfl
@[simp] theorem kx_val : keepX (.ok (d, .val) e) = .ok (.val d) e := id rfl
@[simp] theorem kx_xt : keepX (.ok (d, .xt) e) = .ok (.valx d) e := id rfl
@[simp] theorem kx_x1 : keepX (.ok (d, .x1) e) = .ok (.valy d) e := id rfl
@[simp] theorem kx_fr : keepX (.ok (d, .fr) e) = .ok (.val d) e := id rfl
@[simp] theorem kx_br : keepX (.ok (d, .br i) e) = (match e[i]? with
      | some (.own xs) => .ok (.val (.list xs)) (e.set i (.val (.list xs)))
      | _ => .stuck) := by
  show (keepR _).bind _ = _
  rw [kr_br]
  cases e[i]? with
  | none => rfl
  | some s => cases s <;> rfl
@[simp] theorem kx_exc : keepX (.exc c d e) = .exc c d e := id rfl
@[simp] theorem hr_val : holdR (.ok (d, .val) e) = .ok (d, .val) e := id rfl
@[simp] theorem hr_xt : holdR (.ok (d, .xt) e) = .ok (d, .xt) e := id rfl
@[simp] theorem hr_x1 : holdR (.ok (d, .x1) e) = .ok (d, .x1) e := id rfl
@[simp] theorem hr_fr : holdR (.ok (d, .fr) e) = .ok (d, .fr) e := id rfl
@[simp] theorem hr_br : holdR (.ok (d, .br i) e) = (match e[i]? with
      | some (.own xs) => .ok (.list xs, .val) (e.set i (.val (.list xs)))
      | _ => .stuck) := by
  show (keepR _).bind _ = _
  rw [kr_br]
  cases e[i]? with
  | none => rfl
  | some s => cases s <;> rfl
@[simp] theorem hr_exc : holdR (.exc c d e) = .exc c d e := id rfl
@[simp] theorem so_int (f : Fl) (h : f = .val) : slotOf (.int a, f) = .val (.int a) := by subst h; rfl
@[simp] theorem so_tup : slotOf (.tuple xs, .val) = .val (.tuple xs) := id rfl
@[simp] theorem so_lst : slotOf (.list xs, .fr) = .own xs := id rfl
@[simp] theorem so_lstv : slotOf (.list xs, .val) = .val (.list xs) := id rfl
@[simp] theorem so_none : slotOf (.none, .val) = .val .none := id rfl
@[simp] theorem so_bool (b : Bool) : slotOf (.bool b, .val) = .val (.bool b) := id rfl
@[simp] theorem so_str (s : Str) : slotOf (.str s, .val) = .val (.str s) := id rfl
@[simp] theorem so_xt : slotOf (d, .xt) = .valx d := by cases d <;> rfl
@[simp] theorem so_x1 : slotOf (d, .x1) = .valy d := by cases d <;> rfl
@[simp] theorem rr_val : retR (.ok (d, .val) e) = .ok (d, .val) e := id rfl
@[simp] theorem rr_xt : retR (.ok (d, .xt) e) = .ok (d, .xt) e := id rfl
@[simp] theorem rr_x1 : retR (.ok (d, .x1) e) = .ok (d, .x1) e := id rfl
@[simp] theorem rr_fr : retR (.ok (d, .fr) e) = .ok (d, .fr) e := id rfl
@[simp] theorem rr_br : retR (.ok (d, .br i) e) = (match e[i]? with
    | some (.own _) => .ok (d, .fr) (e.set i .emp)
    | _ => .stuck) := id rfl
@[simp] theorem rr_exc : retR (.exc c d e) = .exc c d e := id rfl
@[simp] theorem nf_int : newF (.int a) = .val := id rfl
@[simp] theorem nf_tup : newF (.tuple xs) = .val := id rfl
@[simp] theorem nf_lst : newF (.list xs) = .fr := id rfl
@[simp] theorem nf_str (s : Str) : newF (.str s) = .val := id rfl
@[simp] theorem op_s : optS (some e) = .next e := id rfl
@[simp] theorem ki_range1 (r : Out (D × Fl)) (t : IE) : keepI (.range1 t) r = (match r with | .ok (_, .br _) _ => .stuck | r => keepR r) := by cases r with
  | ok x e => obtain ⟨d, f⟩ := x; cases f <;> rfl
  | _ => rfl
@[simp] theorem ki_range2 (r : Out (D × Fl)) (t u : IE) : keepI (.range2 t u) r = (match r with | .ok (_, .br _) _ => .stuck | r => keepR r) := by cases r with
  | ok x e => obtain ⟨d, f⟩ := x; cases f <;> rfl
  | _ => rfl
@[simp] theorem ki_enumr (r : Out (D × Fl)) (t : IE) : keepI (.enumr t) r = (match r with | .ok (_, .br _) _ => .stuck | r => keepR r) := by cases r with
  | ok x e => obtain ⟨d, f⟩ := x; cases f <;> rfl
  | _ => rfl
@[simp] theorem ki_bin (r : Out (D × Fl)) (o : BinO) (t u : IE) : keepI (.bin o t u) r = (match r with | .ok (_, .br _) _ => .stuck | r => keepR r) := by cases r with
  | ok x e => obtain ⟨d, f⟩ := x; cases f <;> rfl
  | _ => rfl
@[simp] theorem ki_call (r : Out (D × Fl)) (o : Nat) (u : IE) : keepI (.call o u) r = (match r with | .ok (_, .br _) _ => .stuck | r => keepR r) := by cases r with
  | ok x e => obtain ⟨d, f⟩ := x; cases f <;> rfl
  | _ => rfl
@[simp] theorem ki_slice (r : Out (D × Fl)) (t u v : IE) : keepI (.slice t u v) r = (match r with | .ok (_, .br _) _ => .stuck | r => keepR r) := by cases r with
  | ok x e => obtain ⟨d, f⟩ := x; cases f <;> rfl
  | _ => rfl
@[simp] theorem ki_var (r : Out (D × Fl)) (i : Nat) : keepI (.var i) r = keepR r := id rfl
@[simp] theorem it_lst : itemsOf (.list xs) = some xs := id rfl
@[simp] theorem it_tup : itemsOf (.tuple xs) = some xs := id rfl
@[simp] theorem bt_var : bindT (.var i) d e = (if i < e.length then (match e[i]? with
      | some (.io _) => none
      | _ => some (e.set i (.val d))) else none) := id rfl
@[simp] theorem bt_tup (es : IE) : bindT (.tup es) (.tuple xs) e = bindT.bindTs es xs e := id rfl
@[simp] theorem bts_nil : bindT.bindTs .nil [] e = some e := id rfl
@[simp] theorem bts_cons (t r : IE) : bindT.bindTs (.cons t r) (x :: xs) e = (bindT t x e).bind fun e1 => bindT.bindTs r xs e1 := id rfl
@[simp] theorem os_nil : outs [] e = [] := by cases e <;> rfl
@[simp] theorem os_io (r : List Slot) (s : Slot) : outs (.io xs :: r) (s :: e) = s :: outs r e := id rfl
@[simp] theorem os_val (r : List Slot) (s : Slot) : outs (.val d :: r) (s :: e) = .emp :: outs r e := id rfl
@[simp] theorem os_valx (r : List Slot) (s : Slot) : outs (.valx d :: r) (s :: e) = .emp :: outs r e := id rfl
@[simp] theorem os_valy (r : List Slot) (s : Slot) : outs (.valy d :: r) (s :: e) = .emp :: outs r e := id rfl
@[simp] theorem bk_nil (ss : List Slot) : backIo .nil ss e = some e := by cases ss <;> rfl
@[simp] theorem bk_io (ss : List Slot) (t : IE) : backIo (.cons (.ioarg i) t) (.io ys :: ss) e = (match e[i]? with
      | some (.own _) => backIo t ss (e.set i (.own ys))
      | some (.io _) => backIo t ss (e.set i (.io ys))
      | _ => none) := by
  show (match Slot.io ys, e[i]? with
      | .io ys, some (.own _) => backIo t ss (e.set i (.own ys))
      | .io ys, some (.io _) => backIo t ss (e.set i (.io ys))
      | _, _ => none) = _
  cases e[i]? with
  | none => rfl
  | some s => cases s <;> rfl
@[simp] theorem bk_emp (ss : List Slot) (h t : IE) : backIo (.cons h t) (.emp :: ss) e = (match h with | .ioarg _ => none | _ => backIo t ss e) := by
  cases h <;> rfl
@[simp] theorem hi_nil : hasIo .nil = false := id rfl
end
theorem runF_s (P : List FD) (C : List D) (L n f : Nat) (ss : List Slot) (fd : FD) (h : P[f]? = some fd) (l : ss.length = fd.np) : runF P C L (n + 1) f ss = (match execS (runF P C L n) C L fd.body (ss ++ List.replicate (fd.ns - fd.np) .emp) with
      | .next e => .ok (.none, .val) (outs ss e)
      | .ret x e => (match x.2.isBr with
        | true => .stuck
        | false => .ok x (outs ss e))
      | .exc c d e => .exc c d (outs ss e)
      | _ => .stuck) := by
  unfold runF
  rw [h]
  show (if ss.length = fd.np then _ else _) = _
  rw [if_pos l] <;> rfl

section
variable (a b c d : IE)
@[simp] theorem p_nil   : pure (.nil) = (true) := id rfl
@[simp] theorem p_var (i : Nat)  : pure (.var i) = (true) := id rfl
@[simp] theorem p_glob (i : Nat)  : pure (.glob i) = (true) := id rfl
@[simp] theorem p_lit (x : D)  : pure (.lit x) = (true) := id rfl
@[simp] theorem p_ix1 (i : Nat)  : pure (.ix1 i) = (true) := id rfl
@[simp] theorem p_ioarg (i : Nat)  : pure (.ioarg i) = (false) := id rfl
@[simp] theorem p_pop (i : Nat)  : pure (.pop i) = (false) := id rfl
@[simp] theorem p_popAt (i : Nat)  : pure (.popAt i a) = (false) := id rfl
@[simp] theorem p_told (ns : List (Nat × Str))  : pure (.told ns a) = (false) := id rfl
@[simp] theorem p_cons   : pure (.cons  a b) = (pure a && pure b) := id rfl
@[simp] theorem p_tmul   : pure (.tmul  a b) = (pure a && pure b) := id rfl
@[simp] theorem p_bin (o : BinO)  : pure (.bin o a b) = (pure a && pure b) := id rfl
@[simp] theorem p_andE   : pure (.andE  a b) = (pure a && pure b) := id rfl
@[simp] theorem p_orE   : pure (.orE  a b) = (pure a && pure b) := id rfl
@[simp] theorem p_cmp (o : CmpO)  : pure (.cmp o a b) = (pure a && pure b) := id rfl
@[simp] theorem p_ix   : pure (.ix  a b) = (pure a && pure b) := id rfl
@[simp] theorem p_range2   : pure (.range2  a b) = (pure a && pure b) := id rfl
@[simp] theorem p_zipp   : pure (.zipp  a b) = (pure a && pure b) := id rfl
@[simp] theorem p_neg   : pure (.neg  a) = (pure a) := id rfl
@[simp] theorem p_notE   : pure (.notE  a) = (pure a) := id rfl
@[simp] theorem p_tup   : pure (.tup  a) = (pure a) := id rfl
@[simp] theorem p_lst   : pure (.lst  a) = (pure a) := id rfl
@[simp] theorem p_rev   : pure (.rev  a) = (pure a) := id rfl
@[simp] theorem p_call (f : Nat)  : pure (.call f a) = (pure a) := id rfl
@[simp] theorem p_bi (f : BI)  : pure (.bi f a) = (pure a) := id rfl
@[simp] theorem p_range1   : pure (.range1  a) = (pure a) := id rfl
@[simp] theorem p_enumr   : pure (.enumr  a) = (pure a) := id rfl
@[simp] theorem p_tupx   : pure (.tupx  a) = (pure a) := id rfl
@[simp] theorem p_mt (m : MT)  : pure (.mt m a b) = (pure a && pure b) := id rfl
@[simp] theorem p_ite   : pure (.ite  a b c) = (pure a && pure b && pure c) := id rfl
@[simp] theorem p_slice   : pure (.slice  a b c) = (pure a && pure b && pure c) := id rfl
@[simp] theorem p_chain (o q : CmpO)  : pure (.chain o q a b c) = (pure a && pure b && pure c) := id rfl
@[simp] theorem p_isi  (t : TyN) : pure (.isi  a t) = (pure a) := id rfl
@[simp] theorem p_tup1  (i : Nat) : pure (.tup1  a i) = (pure a) := id rfl
@[simp] theorem p_comp  (l : List Nat) : pure (.comp  a b c d l) = (pure a && pure b && pure c && pure d) := id rfl
end
theorem le_lim {n : Nat} (h : n ≤ 100000) : n ≤ lim := Nat.le_trans h (by decide)
theorem lt_lim {n : Nat} (h : n < 100000) : n < lim := Nat.lt_of_lt_of_le h (by decide)
end TI

set_option Elab.async false
set_option autoImplicit false
set_option maxRecDepth 100000
set_option maxHeartbeats 1000000
set_option linter.all false
/-! W1: the law's own numbers: pool, take, one, mixed. -/
namespace TI
open PySem
/-- a jar's two numbers -/
def Jar (a b : Int) : Prop := 0 ≤ a ∧ 0 ≤ b ∧ b < 2147483647
section
variable (n L : Nat)
theorem small_of {i : Int} (h1 : 0 ≤ i) (h2 : i < 18446744073709551616) : small i = true := by
  unfold small
  exact decide_eq_true (by omega)
theorem inR_of {i : Int} (h1 : 0 ≤ i) (h2 : i < 4611686018427387904) : inR i = true := by
  unfold inR
  exact decide_eq_true (by omega)
theorem take_is (a b t : Int) (J : Jar a b) (ht : 0 < t) (ht2 : t < 1073741824) : ∃ v a' b', Jar a' b' ∧ 0 ≤ v ∧ v < t ∧
    runF prog consts L (n + 1) 64 [.io [.int a, .int b], .val (.int t)] = .ok (.int v, .val) [.io [.int a', .int b'], .emp] := by
  obtain ⟨ha, hb, hb2⟩ := J
  have ht3 : t.natAbs < 1073741824 := by omega
  rw [runF_s (h := rfl) (l := rfl)]
  by_cases h : 0 < a
  · refine ⟨a % t, a / t, b, ⟨?_, hb, hb2⟩, ?_, ?_, ?_⟩
    rotate_left 3
    · simp [fd_law_take, b_law_take, h, pure, putS, isHeld, modL, itemAt, place, b_mod, b_div, ht, ht3, biOp]
    · exact Int.ediv_nonneg ha (Int.le_of_lt ht)
    · exact Int.emod_nonneg _ (by omega)
    · exact Int.emod_lt_of_pos _ ht
  · refine ⟨(((b * 39373 + 7) % 2147483647) * ((b * 39373 + 7) % 2147483647)) % 2147483629 / 32 % t, a, (b * 39373 + 7) % 2147483647, ⟨ha, ?_, ?_⟩, ?_, ?_, ?_⟩
    rotate_left 4
    · have s1 : small (39373 : Int) = true := by decide
      have s2 : small ((b * 39373 + 7) % 2147483647) = true := small_of (Int.emod_nonneg _ (by omega)) (by have := Int.emod_lt_of_pos (b * 39373 + 7) (b := 2147483647) (by omega); omega)
      simp [fd_law_take, b_law_take, h, pure, putS, isHeld, modL, itemAt, place, b_mod, b_div, b_mulR, s1, s2, ht, ht3, biOp]
    · exact Int.emod_nonneg _ (by omega)
    · exact Int.emod_lt_of_pos _ (by omega)
    · exact Int.emod_nonneg _ (by omega)
    · exact Int.emod_lt_of_pos _ ht
theorem itemAt_nat (xs : List D) (i : Nat) (h : i < xs.length) : itemAt xs (i : Int) = some xs[i] := by
  unfold itemAt place
  rw [if_pos (by omega), if_pos (by omega)]
  simp [h]
theorem itemAt_int (xs : List D) (v : Int) (h0 : 0 ≤ v) (h : v < xs.length) : itemAt xs v = xs[v.toNat]? := by
  obtain ⟨i, rfl⟩ := Int.eq_ofNat_of_zero_le h0
  rw [itemAt_nat xs i (by omega)]
  simp
theorem one_is (a b : Int) (J : Jar a b) (xs : List D) (h0 : 0 < xs.length) (h1 : xs.length < 1000) : ∃ (i : Nat) (a' b' : Int) (d : D), Jar a' b' ∧ xs[i]? = some d ∧
    runF prog consts L (n + 2) 65 [.io [.int a, .int b], .val (.list xs)] = .ok (d, .val) [.io [.int a', .int b'], .emp] := by
  obtain ⟨v, a', b', J', v0, v1, h⟩ := take_is n L a b xs.length J (by omega) (by omega)
  have hv : v.toNat < xs.length := by omega
  refine ⟨v.toNat, a', b', xs[v.toNat], J', List.getElem?_eq_getElem hv, ?_⟩
  rw [runF_s (h := rfl) (l := rfl)]
  simp [fd_law_one, b_law_one, isHeld, ioIn, biOp, h, itemAt_int xs v v0 v1, hv]
theorem pow18 : binOp .pow (.int 10) (.int 18) = some (.int 1000000000000000000) := by
  have h : (0 : Int) ≤ 18 ∧ (18 : Int) ≤ 1000000 ∧ small (10 : Int) = true := by decide
  rw [show binOp .pow (.int 10) (.int 18) = if (0 : Int) ≤ 18 ∧ (18 : Int) ≤ 1000000 ∧ small (10 : Int) = true then some (.int (10 ^ (18 : Int).toNat)) else none from rfl, if_pos h]
  rfl
@[simp] theorem len_l (xs : List D) : biOp .len [.list xs] = some (.int xs.length, .val) := id rfl
@[simp] theorem len_t (xs : List D) : biOp .len [.tuple xs] = some (.int xs.length, .val) := id rfl
@[simp] theorem int_i (a : Int) : biOp .int1 [.int a] = some (.int a, .val) := id rfl
@[simp] theorem int_b (b : Bool) : biOp .int1 [.bool b] = some (.int (if b then 1 else 0), .val) := id rfl
@[simp] theorem max_2 (a b : Int) : biOp .max2 [.int a, .int b] = some (.int (if b > a then b else a), .val) := id rfl
@[simp] theorem min_2 (a b : Int) : biOp .min2 [.int a, .int b] = some (.int (if b < a then b else a), .val) := id rfl
theorem max_pos (c : Int) : ∃ g : Int, (if -1 - c > c then -1 - c else c) = g ∧ 0 ≤ g := ⟨_, rfl, by split <;> omega⟩
theorem sh_nil : SeqAt.shaped (.list []) = true := by decide
theorem ne_nil (xs : List D) (h : SeqAt.shaped (.list xs) = true) : cmpOp .ne (.list xs) (.list []) = some (!xs.isEmpty) := by
  show (if (SeqAt.shaped (.list xs) && SeqAt.shaped (.list [])) = true then some (!PyData.eqv (.list xs) (.list [])) else none) = _
  rw [h, sh_nil, if_pos (by rfl)]
  cases xs <;> simp [PyData.eqv, PyData.eqvAll]
theorem sh_ints (ns : List Int) : SeqAt.shaped (.list (ns.map .int)) = true := by
  have h1 : PyData.canLayAll0 (ns.map .int) = true := by
    induction ns with
    | nil => rfl
    | cons a r ih => simp [PyData.canLayAll0, PyData.canLay0, ih]
  have h2 : PyData.depthAll (ns.map .int) = 0 := by
    induction ns with
    | nil => rfl
    | cons a r ih => simp only [List.map_cons, PyData.depthAll, PyData.depth]; rw [ih (by simp [PyData.canLayAll0, PyData.canLay0] at h1; exact h1)]; rfl
  simp [SeqAt.shaped, PyData.canLay0, h1, PyData.depth, h2]
theorem small1 : small (1 : Int) = true := by decide
theorem small0 : small (0 : Int) = true := by decide
/-- a list without its i-th item, and that item -/
theorem erase_perm {α : Type} (W F : List α) (i : Nat) (h : i < W.length) : (W ++ F).Perm (W.eraseIdx i ++ (F ++ [W[i]])) := by
  have h1 : W.Perm (W[i] :: W.eraseIdx i) := by
    rw [List.eraseIdx_eq_take_drop_succ]
    conv => lhs; rw [← List.take_append_drop i W, List.drop_eq_getElem_cons h]
    exact List.perm_middle
  refine (List.Perm.append_right F h1).trans ?_
  rw [List.cons_append]
  refine (List.perm_append_comm (l₁ := [W[i]])).trans ?_
  simp
theorem mixed_loop (s : D) : ∀ (rs W F : List D) (s4 : Slot) (a b : Int), Jar a b → (s4 = .emp ∨ ∃ x, s4 = .val x) → W.length = rs.length → W.length + F.length < 1000 →
    ∃ (a' b' : Int) (F' : List D) (s' : Slot), Jar a' b' ∧ (W ++ F).Perm F' ∧
    forL (forF (runF prog consts L (n + 1)) consts L (.var 4) (.cons (.app 3 (.popAt 2 (.call 64 (.cons (.ioarg 0) (.cons (.bi .len (.cons (.var 2) .nil)) .nil))))) .nil)) rs [.io [.int a, .int b], .val s, .own W, .own F, s4] =
      .next [.io [.int a', .int b'], .val s, .own [], .own F', s']
  | [], W, F, s4, a, b, J, _, e, _ => by
    have : W = [] := List.eq_nil_of_length_eq_zero (by simpa using e)
    subst this
    exact ⟨a, b, F, s4, J, by simp, rfl⟩
  | r :: rs, W, F, s4, a, b, J, h4, e, lt => by
    have w0 : 0 < W.length := by rw [e]; simp
    obtain ⟨v, a1, b1, J1, v0, v1, hv⟩ := take_is n L a b W.length J (by omega) (by omega)
    have vi : v.toNat < W.length := by omega
    obtain ⟨a', b', F', s', J', p, h⟩ := mixed_loop s rs (W.eraseIdx v.toNat) (F ++ [W[v.toNat]]) (.val r) a1 b1 J1 (.inr ⟨_, rfl⟩) (by rw [List.length_eraseIdx, if_pos vi, e]; simp) (by rw [List.length_eraseIdx, if_pos vi, List.length_append]; simp; omega)
    refine ⟨a', b', F', s', J', (erase_perm W F v.toNat vi).trans p, ?_⟩
    have ir : inR v = true := inR_of v0 (by omega)
    have pl : place W.length v = some v.toNat := by unfold place; rw [if_pos v0, if_pos v1]
    have fl : F.length < 100000 := by omega
    rw [forL, ← h]
    rcases h4 with rfl | ⟨x, rfl⟩ <;> simp [forF, isHeld, ioIn, hv, popR, heldAt, ir, pl, vi, modL, lt_lim, fl]
theorem rangeL_length : ∀ (m : Nat) (lo : Int), (rangeL lo m).length = m
  | 0, _ => rfl
  | m + 1, lo => by simp [rangeL, rangeL_length m]
theorem pool_is (ns : List Int) (k : Nat) (hk : k < 4) : ∃ a b, Jar a b ∧
    runF prog consts L (n + 1) 63 [.val (.list (ns.map .int)), .val (.int k)] = .ok (.list [.int a, .int b], .fr) [.emp, .emp] := by
  rw [runF_s (h := rfl) (l := rfl)]
  have s0 : small (48271 : Int) = true := by decide
  have s1 : small (7919 : Int) = true := by decide
  have s2 : small (31 : Int) = true := by decide
  have s3 : small (k : Int) = true := small_of (by omega) (by omega)
  have s4 : ∀ (p : Prop) [Decidable p], small (if p then 1 else 0) = true := fun p _ => by split <;> decide
  have J : ∀ (g c b : Int), 0 ≤ g → Jar (g * c * c) (b % 2147483647) := fun g c b h => by
    rw [Int.mul_assoc]
    refine ⟨Int.mul_nonneg h (by rcases Int.le_total 0 c with z | z; exact Int.mul_nonneg z z; exact Int.mul_nonneg_of_nonpos_of_nonpos z z), Int.emod_nonneg _ (by omega), Int.emod_lt_of_pos _ (by omega)⟩
  by_cases h : k < ns.length
  · have i1 : itemAt (ns.map .int) k = some (.int ns[k]) := by rw [itemAt_nat _ _ (by simpa using h)]; simp
    obtain ⟨g, hg, g0⟩ := max_pos ns[k]
    by_cases hh : 1000000000000000000 ≤ g
    · refine ⟨g, (g % 2147483629 + 7919 * ↑k * ↑k + 31 * ↑k + 17) * 48271 % 2147483647, by have := J g 1 ((g % 2147483629 + 7919 * ↑k * ↑k + 31 * ↑k + 17) * 48271) g0; simpa using this, ?_⟩
      simp [fd_law_pool, b_law_pool, h, putS, pure, i1, hg, b_mod, b_mul, s0, s1, s2, s3, small1, pow18, le_lim, hh]
    · refine ⟨0, (g % 2147483629 + 7919 * ↑k * ↑k + 31 * ↑k + 17) * 48271 % 2147483647, by have := J 0 0 ((g % 2147483629 + 7919 * ↑k * ↑k + 31 * ↑k + 17) * 48271) (by omega); simpa using this, ?_⟩
      simp [fd_law_pool, b_law_pool, h, putS, pure, i1, hg, b_mod, b_mul, s0, s1, s2, s3, small0, pow18, le_lim, hh]
  · have h' : ¬ ((k : Int) < ns.length) := by omega
    cases ns with
    | nil =>
      have kn : ¬ (k : Int) < 0 := by omega
      refine ⟨0, (0 % 2147483629 + 7919 * ↑k * ↑k + 31 * ↑k + 17) * 48271 % 2147483647, by have := J 0 0 ((0 % 2147483629 + 7919 * ↑k * ↑k + 31 * ↑k + 17) * 48271) (by omega); simpa using this, ?_⟩
      simp [fd_law_pool, b_law_pool, putS, pure, b_mod, b_mul, s0, s1, s2, s3, small0, pow18, le_lim, ne_nil, sh_nil, kn]
    | cons c r =>
      have kn : ¬ (k : Int) < (r.length : Int) + 1 := by simp at h'; omega
      obtain ⟨g, hg, g0⟩ := max_pos c
      have sh := sh_ints (c :: r)
      rw [List.map_cons] at sh
      have i0 : itemAt (.int c :: r.map .int) 0 = some (.int c) := itemAt_nat (.int c :: r.map .int) 0 (by simp)
      refine ⟨0, (g % 2147483629 + 7919 * ↑k * ↑k + 31 * ↑k + 17) * 48271 % 2147483647, by have := J 0 0 ((g % 2147483629 + 7919 * ↑k * ↑k + 31 * ↑k + 17) * 48271) (by omega); simpa using this, ?_⟩
      by_cases hh : 1000000000000000000 ≤ g
      · simp [fd_law_pool, b_law_pool, putS, pure, hg, b_mod, b_mul, s0, s1, s2, s3, small0, pow18, le_lim, ne_nil, sh, kn, i0, hh]
      · simp [fd_law_pool, b_law_pool, putS, pure, hg, b_mod, b_mul, s0, s1, s2, s3, small0, pow18, le_lim, ne_nil, sh, kn, i0, hh]

theorem mixed_is (xs : List D) (h1 : xs.length < 1000) (a b : Int) (J : Jar a b) : ∃ (a' b' : Int) (ys : List D), Jar a' b' ∧ xs.Perm ys ∧
    runF prog consts L (n + 2) 66 [.io [.int a, .int b], .val (.list xs)] = .ok (.list ys, .fr) [.io [.int a', .int b'], .emp] := by
  have i0 : inR (xs.length : Int) = true := inR_of (by omega) (by omega)
  obtain ⟨a', b', F', s', J', p, h⟩ := mixed_loop n L (.list xs) (rangeL 0 xs.length) xs [] .emp a b J (.inl rfl) (by rw [rangeL_length]) (by simpa using h1)
  refine ⟨a', b', F', J', by simpa using p, ?_⟩
  rw [runF_s (h := rfl) (l := rfl)]
  have l1 : biOp .list1 [.list xs] = some (.list xs, .fr) := rfl
  have l2 : xs.length ≤ 100000 := by omega
  simp [fd_law_mixed, b_law_mixed, pure, l1, l2, putS, i0, rangeL_length, h, le_lim]
end
end TI

set_option Elab.async false
set_option autoImplicit false
set_option maxRecDepth 100000
set_option maxHeartbeats 1000000
set_option linter.all false
/-! W2: _law_same answers True at the same thing twice. -/
namespace TI
open PySem
/-- rounds that a thing takes -/
def sz : D → Nat
  | .list xs => szs xs + 1
  | .tuple xs => szs xs + 1
  | _ => 1
where szs : List D → Nat
  | [] => 0
  | x :: r => sz x + szs r
def okD (d : D) : Prop := d.canLay0 = true ∧ d.depth ≤ 20
def pr (d : D) : D := .tuple [d, d]
theorem okD_mem {xs : List D} (h : PyData.canLayAll0 xs = true) (h2 : PyData.depthAll xs ≤ 20) : ∀ d ∈ xs, okD d := by
  induction xs with
  | nil => intro d hd; cases hd
  | cons x r ih =>
    intro d hd
    simp only [PyData.canLayAll0, Bool.and_eq_true] at h
    simp only [PyData.depthAll] at h2
    rcases List.mem_cons.mp hd with rfl | hd
    · exact ⟨h.1, by omega⟩
    · exact ih h.2 (by omega) d hd
theorem shaped_prs {ds : List D} (h : ∀ d ∈ ds, okD d) : SeqAt.shaped (.list (ds.map pr)) = true := by
  have h1 : PyData.canLayAll0 (ds.map pr) = true := by
    induction ds with
    | nil => rfl
    | cons a r ih => simp [PyData.canLayAll0, PyData.canLay0, pr, (h a (by simp)).1, ih fun d hd => h d (by simp [hd])]
  have h2 : PyData.depthAll (ds.map pr) ≤ 21 := by
    clear h1
    induction ds with
    | nil => simp [PyData.depthAll]
    | cons a r ih =>
      have a1 := (h a (by simp)).2
      have a2 := ih fun d hd => h d (by simp [hd])
      simp only [List.map_cons, PyData.depthAll, PyData.depth, pr] at a2 ⊢
      omega
  have h3 : (PyData.list (ds.map pr)).depth = PyData.depthAll (ds.map pr) + 1 := by simp [PyData.depth]
  have h4 : (PyData.list (ds.map pr)).canLay0 = true := by simp [PyData.canLay0, h1]
  unfold SeqAt.shaped
  rw [h4, h3, Bool.true_and]
  exact decide_eq_true (by omega)
theorem szs_app (xs ys : List D) : sz.szs (xs ++ ys) = sz.szs xs + sz.szs ys := by
  induction xs with
  | nil => simp [sz.szs]
  | cons a r ih => simp [sz.szs, ih]; omega
theorem sz_pos (d : D) : 0 < sz d := by cases d <;> simp [sz]
theorem szs_len (xs : List D) : xs.length ≤ sz.szs xs := by
  induction xs with
  | nil => simp
  | cons a r ih => have := sz_pos a; simp [sz.szs]; omega
theorem c_eqb (a b : Bool) : cmpOp .eq (.bool a) (.bool b) = some (a == b) := by cases a <;> cases b <;> rfl
theorem c_eqs (a : Str) : cmpOp .eq (.str a) (.str a) = some true := by
  show some (a == a) = some true
  rw [beq_self_eq_true]
section
variable (n L : Nat)
theorem whole_i (i : Int) : runF prog consts L (n + 1) 67 [.val (.int i)] = .ok (.bool true, .val) [.emp] := by
  rw [runF_s (h := rfl) (l := rfl)]
  simp [fd_law_is_whole, b_law_is_whole, isTy]

def sameB : IS := match b_law_same with
  | .cons _ (.cons (.whil _ b) _) => b
  | _ => .nil
/-- the pairs of a thing's own things -/
theorem same_compL (xs : List D) (s0 s1 s2 s5 : Slot) : ∀ (k i : Nat), i + k = xs.length →
    compL (compF (runF prog consts L n) consts (.var 6) .nil (.tup (.cons (.ix (.var 3) (.var 6)) (.cons (.ix (.var 4) (.var 6)) .nil))) [6]) (rangeL i k) [s0, s1, s2, .val (.list xs), .val (.list xs), s5, .emp] = .ok ((xs.drop i).map pr) [s0, s1, s2, .val (.list xs), .val (.list xs), s5, .emp]
  | 0, i, e => by
    rw [List.drop_of_length_le (by omega)]
    rfl
  | k + 1, i, e => by
    have ih := same_compL xs s0 s1 s2 s5 k (i + 1) (by omega)
    have hi : i < xs.length := by omega
    rw [List.drop_eq_getElem_cons hi, List.map_cons, rangeL, compL]
    have it := itemAt_nat xs i hi
    have e1 : ((i : Int) + 1) = ((i + 1 : Nat) : Int) := by omega
    rw [← e1] at ih
    simp [compF, tstE, it, wipeE, ih, le_lim, pr]
theorem same_compT (xs : List D) (s0 s1 s2 s5 : Slot) : ∀ (k i : Nat), i + k = xs.length →
    compL (compF (runF prog consts L n) consts (.var 6) .nil (.tup (.cons (.ix (.var 3) (.var 6)) (.cons (.ix (.var 4) (.var 6)) .nil))) [6]) (rangeL i k) [s0, s1, s2, .val (.tuple xs), .val (.tuple xs), s5, .emp] = .ok ((xs.drop i).map pr) [s0, s1, s2, .val (.tuple xs), .val (.tuple xs), s5, .emp]
  | 0, i, e => by
    rw [List.drop_of_length_le (by omega)]
    rfl
  | k + 1, i, e => by
    have ih := same_compT xs s0 s1 s2 s5 k (i + 1) (by omega)
    have hi : i < xs.length := by omega
    rw [List.drop_eq_getElem_cons hi, List.map_cons, rangeL, compL]
    have it := itemAt_nat xs i hi
    have e1 : ((i : Int) + 1) = ((i + 1 : Nat) : Int) := by omega
    rw [← e1] at ih
    simp [compF, tstE, it, wipeE, ih, le_lim, pr]

theorem same_compL0 (xs : List D) (s0 s1 s2 s5 : Slot) :
    compL (compF (runF prog consts L n) consts (.var 6) .nil (.tup (.cons (.ix (.var 3) (.var 6)) (.cons (.ix (.var 4) (.var 6)) .nil))) [6]) (rangeL 0 xs.length) [s0, s1, s2, .val (.list xs), .val (.list xs), s5, .emp] = .ok (xs.map pr) [s0, s1, s2, .val (.list xs), .val (.list xs), s5, .emp] := by
  have := same_compL n L xs s0 s1 s2 s5 xs.length 0 (by omega)
  rw [List.drop_zero] at this
  exact this
theorem same_compT0 (xs : List D) (s0 s1 s2 s5 : Slot) :
    compL (compF (runF prog consts L n) consts (.var 6) .nil (.tup (.cons (.ix (.var 3) (.var 6)) (.cons (.ix (.var 4) (.var 6)) .nil))) [6]) (rangeL 0 xs.length) [s0, s1, s2, .val (.tuple xs), .val (.tuple xs), s5, .emp] = .ok (xs.map pr) [s0, s1, s2, .val (.tuple xs), .val (.tuple xs), s5, .emp] := by
  have := same_compT n L xs s0 s1 s2 s5 xs.length 0 (by omega)
  rw [List.drop_zero] at this
  exact this
def fr (s : Slot) : Prop := s = .emp ∨ ∃ d, s = .val d
theorem same_loop (h o : D) : ∀ (t k : Nat) (ds : List D) (s3 s4 s5 : Slot), (∀ d ∈ ds, okD d) → sz.szs ds ≤ t → t < k → sz.szs ds ≤ 90000 → fr s3 → fr s4 → fr s5 →
    ∃ e', whilW (runF prog consts L (n + 1)) consts L (.cmp .ne (.var 2) (.lst .nil)) sameB k [.val h, .val o, .own (ds.map pr), s3, s4, s5, .emp] = .next e' := by
  intro t
  induction t with
  | zero =>
    intro k ds s3 s4 s5 ok le lt _ _ _ _
    have := szs_len ds
    have : ds = [] := List.eq_nil_of_length_eq_zero (by omega)
    subst this
    obtain ⟨k', rfl⟩ : ∃ k', k = k' + 1 := ⟨k - 1, by omega⟩
    rw [whilW_s]
    exact ⟨[.val h, .val o, .own [], s3, s4, s5, .emp], by simp [ne_nil, sh_nil, le_lim]⟩
  | succ t ih =>
    intro k ds s3 s4 s5 ok le lt le2 h3 h4 h5
    obtain ⟨k', rfl⟩ : ∃ k', k = k' + 1 := ⟨k - 1, by omega⟩
    rcases List.eq_nil_or_concat ds with rfl | ⟨init, d, rfl⟩
    · rw [whilW_s]
      exact ⟨[.val h, .val o, .own [], s3, s4, s5, .emp], by simp [ne_nil, sh_nil, le_lim]⟩
    · rw [List.concat_eq_append] at ok le le2 ⊢
      have sh := shaped_prs ok
      rw [szs_app] at le le2
      simp only [sz.szs] at le le2
      rw [List.map_append, List.map_cons, List.map_nil] at sh ⊢
      have ne : (List.map pr init ++ [pr d]).isEmpty = false := by simp
      have oki : ∀ x ∈ init, okD x := fun x hx => ok x (by simp [hx])
      have okd : okD d := ok d (by simp)
      have gl : (List.map pr init ++ [PyData.tuple [d, d]]).getLast? = some (.tuple [d, d]) := by simp
      have dl : (List.map pr init ++ [PyData.tuple [d, d]]).dropLast = List.map pr init := by simp
      have il := szs_len init
      rw [whilW_s]
      rw [show pr d = .tuple [d, d] from rfl] at sh ne ⊢
      cases d with
      | none =>
        simp only [sz] at le le2
        obtain ⟨e', he⟩ := ih k' init (.val .none) (.val .none) (.val (.bool true)) oki (by omega) (by omega) (by omega) (.inr ⟨_, rfl⟩) (.inr ⟨_, rfl⟩) (.inr ⟨_, rfl⟩)
        refine ⟨e', ?_⟩
        rw [← he]
        rcases h3 with rfl | ⟨x3, rfl⟩ <;> rcases h4 with rfl | ⟨x4, rfl⟩ <;> rcases h5 with rfl | ⟨x5, rfl⟩ <;> simp [ne_nil, sh, ne, sameB, b_law_same, gl, dl, putS, le_lim, isTy, isNone]
      | bool b =>
        simp only [sz] at le le2
        obtain ⟨e', he⟩ := ih k' init (.val (.bool b)) (.val (.bool b)) (.val (.bool true)) oki (by omega) (by omega) (by omega) (.inr ⟨_, rfl⟩) (.inr ⟨_, rfl⟩) (.inr ⟨_, rfl⟩)
        refine ⟨e', ?_⟩
        rw [← he]
        rcases h3 with rfl | ⟨x3, rfl⟩ <;> rcases h4 with rfl | ⟨x4, rfl⟩ <;> rcases h5 with rfl | ⟨x5, rfl⟩ <;> simp [ne_nil, sh, ne, sameB, b_law_same, gl, dl, putS, le_lim, isTy, isNone, c_eqb]
      | int i =>
        simp only [sz] at le le2
        obtain ⟨e', he⟩ := ih k' init (.val (.int i)) (.val (.int i)) (.val (.bool true)) oki (by omega) (by omega) (by omega) (.inr ⟨_, rfl⟩) (.inr ⟨_, rfl⟩) (.inr ⟨_, rfl⟩)
        refine ⟨e', ?_⟩
        rw [← he]
        rcases h3 with rfl | ⟨x3, rfl⟩ <;> rcases h4 with rfl | ⟨x4, rfl⟩ <;> rcases h5 with rfl | ⟨x5, rfl⟩ <;> simp [ne_nil, sh, ne, sameB, b_law_same, gl, dl, putS, le_lim, isTy, isNone, whole_i]
      | str z =>
        simp only [sz] at le le2
        obtain ⟨e', he⟩ := ih k' init (.val (.str z)) (.val (.str z)) (.val (.bool true)) oki (by omega) (by omega) (by omega) (.inr ⟨_, rfl⟩) (.inr ⟨_, rfl⟩) (.inr ⟨_, rfl⟩)
        refine ⟨e', ?_⟩
        rw [← he]
        rcases h3 with rfl | ⟨x3, rfl⟩ <;> rcases h4 with rfl | ⟨x4, rfl⟩ <;> rcases h5 with rfl | ⟨x5, rfl⟩ <;> simp [ne_nil, sh, ne, sameB, b_law_same, gl, dl, putS, le_lim, isTy, isNone, c_eqs]
      | list xs =>
        have ch : ∀ x ∈ xs, okD x := by
          obtain ⟨q1, q2⟩ := okd
          simp only [PyData.canLay0] at q1
          simp only [PyData.depth] at q2
          exact okD_mem q1 (by omega)
        simp only [sz] at le le2
        have xl := szs_len xs
        obtain ⟨e', he⟩ := ih k' (init ++ xs) (.val (.list xs)) (.val (.list xs)) (.val (.bool true)) (fun x hx => (List.mem_append.mp hx).elim (oki x) (ch x)) (by rw [szs_app]; omega) (by omega) (by rw [szs_app]; omega) (.inr ⟨_, rfl⟩) (.inr ⟨_, rfl⟩) (.inr ⟨_, rfl⟩)
        refine ⟨e', ?_⟩
        rw [← he]
        have cl := same_compL0 (n + 1) L xs
        have ir : inR (xs.length : Int) = true := inR_of (by omega) (by omega)
        have l1 : xs.length ≤ 100000 := by omega
        have l2 : init.length + xs.length ≤ 100000 := by omega
        rcases h3 with rfl | ⟨x3, rfl⟩ <;> rcases h4 with rfl | ⟨x4, rfl⟩ <;> rcases h5 with rfl | ⟨x5, rfl⟩ <;> simp [ne_nil, sh, ne, sameB, b_law_same, gl, dl, putS, le_lim, isTy, isNone, ir, l1, l2, rangeL_length, cl, noIo, wipeE, backE, noExc, isHeld, modL]
      | tuple xs =>
        have ch : ∀ x ∈ xs, okD x := by
          obtain ⟨q1, q2⟩ := okd
          simp only [PyData.canLay0] at q1
          simp only [PyData.depth] at q2
          exact okD_mem q1 (by omega)
        simp only [sz] at le le2
        have xl := szs_len xs
        obtain ⟨e', he⟩ := ih k' (init ++ xs) (.val (.tuple xs)) (.val (.tuple xs)) (.val (.bool true)) (fun x hx => (List.mem_append.mp hx).elim (oki x) (ch x)) (by rw [szs_app]; omega) (by omega) (by rw [szs_app]; omega) (.inr ⟨_, rfl⟩) (.inr ⟨_, rfl⟩) (.inr ⟨_, rfl⟩)
        refine ⟨e', ?_⟩
        rw [← he]
        have cl := same_compT0 (n + 1) L xs
        have ir : inR (xs.length : Int) = true := inR_of (by omega) (by omega)
        have l1 : xs.length ≤ 100000 := by omega
        have l2 : init.length + xs.length ≤ 100000 := by omega
        rcases h3 with rfl | ⟨x3, rfl⟩ <;> rcases h4 with rfl | ⟨x4, rfl⟩ <;> rcases h5 with rfl | ⟨x5, rfl⟩ <;> simp [ne_nil, sh, ne, sameB, b_law_same, gl, dl, putS, le_lim, isTy, isNone, ir, l1, l2, rangeL_length, cl, noIo, wipeE, backE, noExc, isHeld, modL]
      | dict kvs =>
        obtain ⟨q1, q2⟩ := okd
        cases q1
theorem same_is (d : D) (ok : okD d) (h : sz d ≤ 90000) (hL : sz d < L) : runF prog consts L (n + 2) 68 [.val d, .val d] = .ok (.bool true, .val) [.emp, .emp] := by
  obtain ⟨e', he⟩ := same_loop n L d d (sz d) L [d] .emp .emp .emp (fun x hx => by simp at hx; subst hx; exact ok) (by simp [sz.szs]) hL (by simpa [sz.szs] using h) (.inl rfl) (.inl rfl) (.inl rfl)
  rw [runF_s (h := rfl) (l := rfl)]
  rw [List.map_cons, List.map_nil] at he
  unfold pr at he
  simp only [sameB, b_law_same] at he
  have o2 : outs [.val d, .val d] e' = [.emp, .emp] := by
    rcases e' with _ | ⟨a, _ | ⟨b, r⟩⟩ <;> rfl
  simp [fd_law_same, b_law_same, le_lim, putS, he, o2]
end
end TI

set_option Elab.async false
set_option autoImplicit false
set_option maxRecDepth 100000
set_option maxHeartbeats 1000000
set_option linter.all false
/-! W3: checks of numbers, refusals. -/
namespace TI
open PySem
@[simp] theorem cn0 : consts[0]? = some (.int 60) := id rfl
@[simp] theorem cn1 : consts[1]? = some (.int 24) := id rfl
@[simp] theorem cn2 : consts[2]? = some (.int 99) := id rfl
@[simp] theorem cn3 : consts[3]? = some (.int 4) := id rfl
@[simp] theorem cn4 : consts[4]? = some (.int 40) := id rfl
@[simp] theorem cn5 : consts[5]? = some (.int 16) := id rfl
@[simp] theorem cn6 : consts[6]? = some (.int 8) := id rfl
@[simp] theorem cn7 : consts[7]? = some (.int 60) := id rfl
@[simp] theorem cn8 : consts[8]? = some (.int 30) := id rfl
@[simp] theorem cn9 : consts[9]? = some (.int 5) := id rfl
@[simp] theorem cn10 : consts[10]? = some (.int 5000) := id rfl
@[simp] theorem cn11 : consts[11]? = some (.int 3) := id rfl
@[simp] theorem cn12 : consts[12]? = some (.int 16) := id rfl
@[simp] theorem cn13 : consts[13]? = some (.tuple [(.int 1), (.int 1), (.int 1), (.int 1), (.int 0)]) := id rfl
@[simp] theorem cn14 : consts[14]? = some (.int 16) := id rfl
@[simp] theorem cn15 : consts[15]? = some (.int 12) := id rfl
section
variable (n L : Nat)
theorem num_i (a : Int) : runF prog consts L (n + 1) 0 [.val (.int a)] = .ok (.bool true, .val) [.emp] := by
  rw [runF_s (h := rfl) (l := rfl)]
  simp [fd_is_number, b_is_number, isTy]
theorem num_b (b : Bool) : runF prog consts L (n + 1) 0 [.val (.bool b)] = .ok (.bool false, .val) [.emp] := by
  rw [runF_s (h := rfl) (l := rfl)]
  simp [fd_is_number, b_is_number, isTy]
theorem num_n : runF prog consts L (n + 1) 0 [.val .none] = .ok (.bool false, .val) [.emp] := by
  rw [runF_s (h := rfl) (l := rfl)]
  simp [fd_is_number, b_is_number, isTy]
theorem num_s (s : Str) : runF prog consts L (n + 1) 0 [.val (.str s)] = .ok (.bool false, .val) [.emp] := by
  rw [runF_s (h := rfl) (l := rfl)]
  simp [fd_is_number, b_is_number, isTy]
theorem btw_i (a b c : Int) : runF prog consts L (n + 2) 1 [.val (.int a), .val (.int b), .val (.int c)] = .ok (.bool (decide (b ≤ a) && decide (a ≤ c)), .val) [.emp, .emp, .emp] := by
  rw [runF_s (h := rfl) (l := rfl)]
  cases h : decide (b ≤ a) <;> simp [fd_is_between, b_is_between, num_i, h]
theorem btw_b (a : Bool) (b c : D) : runF prog consts L (n + 2) 1 [.val (.bool a), .val b, .val c] = .ok (.bool false, .val) [.emp, .emp, .emp] := by
  rw [runF_s (h := rfl) (l := rfl)]
  simp [fd_is_between, b_is_between, num_b]
theorem btw_n (b c : D) : runF prog consts L (n + 2) 1 [.val .none, .val b, .val c] = .ok (.bool false, .val) [.emp, .emp, .emp] := by
  rw [runF_s (h := rfl) (l := rfl)]
  simp [fd_is_between, b_is_between, num_n]
theorem btw_s (s : Str) (b c : D) : runF prog consts L (n + 2) 1 [.val (.str s), .val b, .val c] = .ok (.bool false, .val) [.emp, .emp, .emp] := by
  rw [runF_s (h := rfl) (l := rfl)]
  simp [fd_is_between, b_is_between, num_s]
theorem many_ok (a b c : Int) (h1 : b ≤ a) (h2 : a ≤ c) : runF prog consts L (n + 3) 3 [.val (.int a), .val (.int b), .val (.int c)] = .ok (.none, .val) [.emp, .emp, .emp] := by
  rw [runF_s (h := rfl) (l := rfl)]
  simp [fd_check_many, b_check_many, btw_i, h1, h2]
theorem k_ok (a : Int) (h1 : 1 ≤ a) (h2 : a ≤ 60) : runF prog consts L (n + 3) 5 [.val (.int a)] = .ok (.int a, .val) [.emp] := by
  rw [runF_s (h := rfl) (l := rfl)]
  simp [fd_made_k, b_made_k, btw_i, h1, h2]
theorem many_bad0 (b c : Int) (h : 0 < b) (e : c = c) : runF prog consts L (n + 3) 3 [.val (.int 0), .val (.int b), .val (.int c)] = .exc 3 (.int 0) [.emp, .emp, .emp] := by
  have h1 : ¬ b ≤ 0 := by omega
  rw [runF_s (h := rfl) (l := rfl)]
  simp [fd_check_many, b_check_many, btw_i, h1, hasIo]
end
end TI

set_option Elab.async false
set_option autoImplicit false
set_option maxRecDepth 100000
set_option maxHeartbeats 1000000
set_option linter.all false
/-! W4: loud stretches. -/
namespace TI
open PySem
theorem b_mulT (a : List D) (b : Int) (h1 : inR b = true) (h2 : a.length * b.toNat ≤ lim) : binOp .mul (.tuple a) (.int b) = some (.tuple (List.replicate b.toNat a).flatten) := if_pos ⟨h1, h2⟩
theorem b_mulL2 (a : List D) (b : Int) (h1 : inR b = true) (h2 : a.length * b.toNat ≤ lim) : binOp .mul (.list a) (.int b) = some (.list (List.replicate b.toNat a).flatten) := if_pos ⟨h1, h2⟩
theorem b_addT (a b : List D) (h : a.length + b.length ≤ lim) : binOp .add (.tuple a) (.tuple b) = some (.tuple (a ++ b)) := if_pos h
theorem b_addL (a b : List D) (h : a.length + b.length ≤ lim) : binOp .add (.list a) (.list b) = some (.list (a ++ b)) := if_pos h
/-- a unit and how often it stands with an empty cell more -/
def loudL (U : List D) (many more : Nat) : List D := U ++ (List.replicate more (U ++ [.int 0])).flatten ++ (List.replicate (many - 1 - more) U).flatten
theorem flen (a : List D) (k : Nat) : (List.replicate k a).flatten.length = k * a.length := by
  induction k with
  | zero => simp
  | succ k ih => rw [List.replicate_succ, List.flatten_cons, List.length_append, ih, Nat.succ_mul]; omega
section
variable (n L : Nat)
theorem loud_of (l r : Int) (U : List D) (many more : Nat) (size : Int) (hu : runF prog consts L n 48 [.val (.int l), .val (.int r)] = .ok (.tuple U, .val) [.emp, .emp])
    (u0 : 0 < U.length) (u1 : U.length < 20) (h1 : size / U.length = many) (h2 : size % U.length = more) (hm : many < 1100) (hr : more < many) :
    runF prog consts L (n + 1) 49 [.val (.int l), .val (.int r), .val (.int size)] = .ok (.tuple (loudL U many more), .val) [.emp, .emp, .emp] := by
  have p1 : 0 < (U.length : Int) := by omega
  have p2 : ((U.length : Int)).natAbs < 1073741824 := by omega
  have i1 : inR (more : Int) = true := inR_of (by omega) (by omega)
  have i2 : ((many : Int) - 1 - more) = ((many - 1 - more : Nat) : Int) := by omega
  have i3 : inR ((many - 1 - more : Nat) : Int) = true := inR_of (by omega) (by omega)
  have m1 : (U.length + 1) * more ≤ 20 * 1100 := Nat.mul_le_mul (by omega) (by omega)
  have m2 : U.length * (many - 1 - more) ≤ 20 * 1100 := Nat.mul_le_mul (by omega) (by omega)
  have l1 : (U.length + 1) * more ≤ lim := le_lim (by omega)
  have l2 : U.length * (many - 1 - more) ≤ lim := le_lim (by omega)
  have l3 : U.length + 1 ≤ lim := le_lim (by omega)
  have l4 : U.length + more * (U.length + 1) ≤ lim := le_lim (by rw [Nat.mul_comm]; omega)
  have a1 : binOp .add (.tuple U) (.tuple [.int 0]) = some (.tuple (U ++ [.int 0])) := b_addT _ _ (by simpa using l3)
  have a2 : binOp .mul (.tuple (U ++ [.int 0])) (.int more) = some (.tuple (List.replicate more (U ++ [.int 0])).flatten) := by
    have := b_mulT (U ++ [.int 0]) more i1 (by simpa using l1)
    simpa using this
  have a3 : binOp .mul (.tuple U) (.int ((many : Int) - 1 - more)) = some (.tuple (List.replicate (many - 1 - more) U).flatten) := by
    rw [i2]
    have := b_mulT U ((many - 1 - more : Nat) : Int) i3 (by simpa using l2)
    simpa using this
  have a4 : binOp .add (.tuple U) (.tuple (List.replicate more (U ++ [.int 0])).flatten) = some (.tuple (U ++ (List.replicate more (U ++ [.int 0])).flatten)) := b_addT _ _ (by rw [flen]; simpa using l4)
  have a5 : binOp .add (.tuple (U ++ (List.replicate more (U ++ [.int 0])).flatten)) (.tuple (List.replicate (many - 1 - more) U).flatten) = some (.tuple (loudL U many more)) := b_addT _ _ (by
    rw [List.length_append, flen, flen, List.length_append]
    refine le_lim ?_
    rw [Nat.mul_comm] at m1 m2
    simp at m1 m2 ⊢
    omega)
  have d1 : binOp .fdiv (.int size) (.int U.length) = some (.int many) := by rw [b_div _ _ ⟨p1, p2⟩, h1]
  have d2 : binOp .mod (.int size) (.int U.length) = some (.int more) := by rw [b_mod _ _ p1, h2]
  rw [runF_s (h := rfl) (l := rfl)]
  simp only [fd_loud_stretch_of, b_loud_stretch_of]
  simp [hu, putS, d1, d2, a1, a2, a3, a4, a5, le_lim]
end
end TI

set_option Elab.async false
set_option autoImplicit false
set_option maxRecDepth 100000
set_option maxHeartbeats 1000000
set_option linter.all false
/-! W5: the law's own loud stretches. -/
namespace TI
open PySem
def ptL (U : List D) (more : Nat) : Nat → Nat → List D
  | _, 0 => []
  | i, k + 1 => (U ++ (if 1 ≤ i ∧ i ≤ more then [.int 0] else [])) ++ ptL U more (i + 1) k
theorem ptL_rest (U : List D) (more : Nat) : ∀ (k i : Nat), more < i → ptL U more i k = (List.replicate k U).flatten
  | 0, _, _ => rfl
  | k + 1, i, h => by
    rw [ptL, if_neg (by omega), ptL_rest U more k (i + 1) (by omega), List.append_nil, List.replicate_succ, List.flatten_cons]
theorem ptL_mid (U : List D) (more : Nat) : ∀ (m i k : Nat), 1 ≤ i → i + m = more + 1 → m ≤ k → ptL U more i k = (List.replicate m (U ++ [.int 0])).flatten ++ (List.replicate (k - m) U).flatten
  | 0, i, k, h1, h2, h3 => by rw [ptL_rest U more k i (by omega)]; simp
  | m + 1, i, 0, _, _, h3 => by omega
  | m + 1, i, k + 1, h1, h2, h3 => by
    rw [ptL, if_pos (by omega), ptL_mid U more m (i + 1) k (by omega) (by omega) (by omega), List.replicate_succ, List.flatten_cons, show k + 1 - (m + 1) = k - m by omega]
    simp [List.append_assoc]
theorem ptL_is (U : List D) (many more : Nat) (h : more < many) : ptL U more 0 many = loudL U many more := by
  obtain ⟨k, rfl⟩ : ∃ k, many = k + 1 := ⟨many - 1, by omega⟩
  rw [ptL, if_neg (by omega), ptL_mid U more more 1 k (by omega) (by omega) (by omega)]
  unfold loudL
  simp
section
variable (n L : Nat)
theorem pt_loud_loop (l r size : D) (U : List D) (u1 : U.length < 20) (many more : Nat) : ∀ (k i : Nat) (cells : List D) (s7 : Slot), fr s7 → cells.length + k * 20 ≤ 90000 → i + k ≤ 2000 →
    ∃ s', forL (forF (runF prog consts L n) consts L (.var 7) (.cons (.ext 6 (.bin .add (.bi .list1 (.cons (.var 3) .nil)) (.bin .mul (.lst (.cons (.lit (.int 0)) .nil)) (.bi .int1 (.cons (.chain .le .le (.lit (.int 1)) (.var 7) (.var 5)) .nil))))) .nil)) (rangeL i k)
      [.val l, .val r, .val size, .val (.tuple U), .val (.int many), .val (.int more), .own cells, s7] = .next [.val l, .val r, .val size, .val (.tuple U), .val (.int many), .val (.int more), .own (cells ++ ptL U more i k), s']
  | 0, i, cells, s7, _, _, _ => ⟨s7, by simp [ptL, rangeL, forL]⟩
  | k + 1, i, cells, s7, h7, h, hi => by
    have z0 : ∀ e : List D, e.length ≤ 1 → U.length + e.length ≤ lim ∧ cells.length + (U.length + e.length) ≤ lim := fun e he => ⟨le_lim (by omega), le_lim (by omega)⟩
    have l1 : biOp .list1 [.tuple U] = some (.list U, .fr) := rfl
    by_cases hc : 1 ≤ i ∧ i ≤ more
    · obtain ⟨s', hs⟩ := pt_loud_loop l r size U u1 many more k (i + 1) (cells ++ (U ++ [.int 0])) (.val (.int i)) (.inr ⟨_, rfl⟩) (by simp; omega) (by omega)
      refine ⟨s', ?_⟩
      rw [ptL, if_pos hc, ← List.append_assoc, ← hs, rangeL, forL]
      have c1 : (1 : Int) ≤ i := by omega
      have c2 : (i : Int) ≤ more := by omega
      have m1 : binOp .mul (.list [.int 0]) (.int 1) = some (.list [.int 0]) := rfl
      have a1 : binOp .add (.list U) (.list [.int 0]) = some (.list (U ++ [.int 0])) := b_addL _ _ (z0 [.int 0] (by simp)).1
      have q : cells.length + (U.length + 1) ≤ lim := (z0 [.int 0] (by simp)).2
      have e1 : (((i + 1 : Nat)) : Int) = (i : Int) + 1 := by omega
      rw [e1]
      rcases h7 with rfl | ⟨x, rfl⟩ <;> simp [forF, isHeld, l1, le_lim, c1, c2, m1, a1, modL, q]
    · obtain ⟨s', hs⟩ := pt_loud_loop l r size U u1 many more k (i + 1) (cells ++ U) (.val (.int i)) (.inr ⟨_, rfl⟩) (by simp; omega) (by omega)
      refine ⟨s', ?_⟩
      rw [ptL, if_neg hc, List.append_nil, ← List.append_assoc, ← hs, rangeL, forL]
      have m1 : binOp .mul (.list [.int 0]) (.int 0) = some (.list []) := rfl
      have a1 : binOp .add (.list U) (.list []) = some (.list U) := by rw [b_addL _ _ (z0 [] (by simp)).1, List.append_nil]
      have q : cells.length + U.length ≤ lim := (z0 [] (by simp)).2
      have e1 : (((i + 1 : Nat)) : Int) = (i : Int) + 1 := by omega
      rw [e1]
      by_cases c1 : (1 : Int) ≤ i
      · have c2 : ¬ (i : Int) ≤ more := fun z => hc ⟨by omega, by omega⟩
        rcases h7 with rfl | ⟨x, rfl⟩ <;> simp [forF, isHeld, l1, le_lim, c1, c2, m1, a1, modL, q]
      · rcases h7 with rfl | ⟨x, rfl⟩ <;> simp [forF, isHeld, l1, le_lim, c1, m1, a1, modL, q]
theorem pt_loud_is (l r : Int) (U : List D) (many more : Nat) (size : Int) (hu : runF prog consts L n 74 [.val (.int l), .val (.int r)] = .ok (.tuple U, .val) [.emp, .emp])
    (u0 : 0 < U.length) (u1 : U.length < 20) (h1 : size / U.length = many) (h2 : size % U.length = more) (hm : many < 1100) (hr : more < many) :
    runF prog consts L (n + 1) 80 [.val (.int l), .val (.int r), .val (.int size)] = .ok (.tuple (loudL U many more), .val) [.emp, .emp, .emp] := by
  have p1 : 0 < (U.length : Int) := by omega
  have p2 : ((U.length : Int)).natAbs < 1073741824 := by omega
  have d1 : binOp .fdiv (.int size) (.int U.length) = some (.int many) := by rw [b_div _ _ ⟨p1, p2⟩, h1]
  have d2 : binOp .mod (.int size) (.int U.length) = some (.int more) := by rw [b_mod _ _ p1, h2]
  have i1 : inR (many : Int) = true := inR_of (by omega) (by omega)
  obtain ⟨s', hs⟩ := pt_loud_loop n L (.int l) (.int r) (.int size) U u1 many more many 0 [] .emp (.inl rfl) (by simp; omega) (by omega)
  rw [ptL_is U many more hr, List.nil_append] at hs
  have l1 : many ≤ 100000 := by omega
  have t1 : biOp .tuple1 [.list (loudL U many more)] = some (.tuple (loudL U many more), .val) := rfl
  have hs : forL (forF (runF prog consts L n) consts L (.var 7) (.cons (.ext 6 (.bin .add (.bi .list1 (.cons (.var 3) .nil)) (.bin .mul (.lst (.cons (.lit (.int 0)) .nil)) (.bi .int1 (.cons (.chain .le .le (.lit (.int 1)) (.var 7) (.var 5)) .nil))))) .nil)) (rangeL 0 many)
      [.val (.int l), .val (.int r), .val (.int size), .val (.tuple U), .val (.int many), .val (.int more), .own [], .emp] = .next [.val (.int l), .val (.int r), .val (.int size), .val (.tuple U), .val (.int many), .val (.int more), .own (loudL U many more), s'] := hs
  rw [runF_s (h := rfl) (l := rfl)]
  simp only [fd_law_pt_loud_stretch, b_law_pt_loud_stretch]
  simp [hu, putS, d1, d2, le_lim, i1, rangeL_length, l1, hs, t1]
end
end TI

set_option Elab.async false
set_option autoImplicit false
set_option maxRecDepth 100000
set_option maxHeartbeats 1000000
set_option linter.all false
/-! W6: gaps of a quiet stretch. -/
namespace TI
open PySem
/-- a unit's gaps, so many times, three cells less at most each time -/
def gl (u0 : Int) (rest : List Int) : Int → Nat → List Int
  | _, 0 => []
  | less, k + 1 => (u0 - (if less < 3 then less else 3)) :: rest ++ gl u0 rest (less - (if less < 3 then less else 3)) k
section
variable (n L : Nat)
theorem gaps_loop (s0 s1 s2 s4 s5 s6 : Slot) (u0 : Int) (rest : List Int) (hr : rest.length ≤ 1) : ∀ (k : Nat) (lo less : Int) (found : List Int) (s9 s10 : Slot), fr s9 → fr s10 → found.length + k * 2 ≤ 90000 →
    ∃ less' s9' s10', forL (forF (runF prog consts L n) consts L (.var 9) (.cons (.set 10 (.bi .min2 (.cons (.glob 11) (.cons (.var 7) .nil)))) (.cons (.set 7 (.bin .sub (.var 7) (.var 10))) (.cons (.app 8 (.bin .sub (.ix (.var 3) (.lit (.int 0))) (.var 10))) (.cons (.ext 8 (.slice (.var 3) (.lit (.int 1)) .nil)) .nil))))) (rangeL lo k)
      [s0, s1, s2, .val (.tuple (.int u0 :: rest.map .int)), s4, s5, s6, .val (.int less), .own (found.map .int), s9, s10] = .next [s0, s1, s2, .val (.tuple (.int u0 :: rest.map .int)), s4, s5, s6, .val (.int less'), .own ((found ++ gl u0 rest less k).map .int), s9', s10']
  | 0, lo, less, found, s9, s10, _, _, _ => ⟨less, s9, s10, by simp [gl, rangeL, forL]⟩
  | k + 1, lo, less, found, s9, s10, h9, h10, hf => by
    obtain ⟨l', a, b, h⟩ := gaps_loop s0 s1 s2 s4 s5 s6 u0 rest hr k (lo + 1) (less - (if less < 3 then less else 3)) (found ++ ((u0 - (if less < 3 then less else 3)) :: rest)) (.val (.int lo)) (.val (.int (if less < 3 then less else 3))) (.inr ⟨_, rfl⟩) (.inr ⟨_, rfl⟩) (by simp; omega)
    refine ⟨l', a, b, ?_⟩
    rw [gl, ← List.append_assoc, ← h, rangeL, forL]
    have i0 : itemAt (.int u0 :: rest.map .int) 0 = some (.int u0) := itemAt_nat (.int u0 :: rest.map .int) 0 (by simp)
    have c0 : cut (.int u0 :: rest.map .int) (some 1) none = rest.map .int := by
      have := List.take_length (l := rest.map PyData.int)
      rw [List.length_map] at this
      simp [cut, cutAt, this]
    have q1 : found.length < lim := lt_lim (by omega)
    have q2 : found.length + 1 + rest.length ≤ lim := le_lim (by omega)
    rcases h9 with rfl | ⟨x, rfl⟩ <;> rcases h10 with rfl | ⟨y, rfl⟩ <;> simp [forF, isHeld, putS, i0, c0, modL, q1, q2, optE]
theorem pt_gaps_loop (s0 s1 s2 s3 s4 s6 s7 s8 s9 s10 s11 s15 s16 : Slot) (u0 : Int) (rest : List Int) (hr : rest.length ≤ 1) : ∀ (k : Nat) (lo less : Int) (found : List Int) (s14 s17 : Slot), fr s14 → fr s17 → found.length + k * 2 ≤ 90000 →
    ∃ less' s14' s17', forL (forF (runF prog consts L n) consts L (.var 14) (.cons (.set 17 (.bi .min2 (.cons (.lit (.int 3)) (.cons (.bi .int1 (.cons (.var 12) .nil)) .nil)))) (.cons (.ext 13 (.bin .add (.lst (.cons (.bin .sub (.ix (.var 5) (.lit (.int 0))) (.var 17)) .nil)) (.bi .list1 (.cons (.slice (.var 5) (.lit (.int 1)) .nil) .nil)))) (.cons (.set 12 (.bin .sub (.var 12) (.var 17))) .nil)))) (rangeL lo k)
      [s0, s1, s2, s3, s4, .val (.tuple (.int u0 :: rest.map .int)), s6, s7, s8, s9, s10, s11, .val (.int less), .own (found.map .int), s14, s15, s16, s17] = .next [s0, s1, s2, s3, s4, .val (.tuple (.int u0 :: rest.map .int)), s6, s7, s8, s9, s10, s11, .val (.int less'), .own ((found ++ gl u0 rest less k).map .int), s14', s15, s16, s17']
  | 0, lo, less, found, s9, s10, _, _, _ => ⟨less, s9, s10, by simp [gl, rangeL, forL]⟩
  | k + 1, lo, less, found, s14, s17, h14, h17, hf => by
    obtain ⟨l', a, b, h⟩ := pt_gaps_loop s0 s1 s2 s3 s4 s6 s7 s8 s9 s10 s11 s15 s16 u0 rest hr k (lo + 1) (less - (if less < 3 then less else 3)) (found ++ ((u0 - (if less < 3 then less else 3)) :: rest)) (.val (.int lo)) (.val (.int (if less < 3 then less else 3))) (.inr ⟨_, rfl⟩) (.inr ⟨_, rfl⟩) (by simp; omega)
    refine ⟨l', a, b, ?_⟩
    rw [gl, ← List.append_assoc, ← h, rangeL, forL]
    have i0 : itemAt (.int u0 :: rest.map .int) 0 = some (.int u0) := itemAt_nat (.int u0 :: rest.map .int) 0 (by simp)
    have c0 : cut (.int u0 :: rest.map .int) (some 1) none = rest.map .int := by
      have := List.take_length (l := rest.map PyData.int)
      rw [List.length_map] at this
      simp [cut, cutAt, this]
    have l1 : ∀ xs : List D, biOp .list1 [.tuple xs] = some (.list xs, .fr) := fun _ => rfl
    have a1 : ∀ x : Int, binOp .add (.list [.int x]) (.list (rest.map .int)) = some (.list (.int x :: rest.map .int)) := fun x => b_addL _ _ (le_lim (by simp; omega))
    have q2 : found.length + (rest.length + 1) ≤ lim := le_lim (by omega)
    rcases h14 with rfl | ⟨x, rfl⟩ <;> rcases h17 with rfl | ⟨y, rfl⟩ <;> simp [forF, isHeld, putS, i0, c0, modL, l1, a1, q2, optE, le_lim]
end
end TI

set_option Elab.async false
set_option autoImplicit false
set_option maxRecDepth 100000
set_option maxHeartbeats 1000000
set_option linter.all false
/-! W7: the layout of a quiet stretch. -/
namespace TI
open PySem
/-- empty cells and a dot behind each gap -/
def lay : List Nat → List D
  | [] => []
  | g :: r => (List.replicate (g - 1) (.int 0) ++ [.int 1]) ++ lay r
theorem flat_rep1 (d : D) (k : Nat) : (List.replicate k [d]).flatten = List.replicate k d := by
  induction k with
  | zero => rfl
  | succ k ih => rw [List.replicate_succ, List.flatten_cons, ih, List.replicate_succ]; rfl
theorem lay_len : ∀ (gs : List Nat), (∀ g ∈ gs, 0 < g) → (lay gs).length = gs.sum
  | [], _ => rfl
  | g :: r, h => by
    have := h g (by simp)
    simp [lay, lay_len r fun x hx => h x (by simp [hx])]
    omega
section
variable (n L : Nat)
theorem pt_lay_loop (s0 s1 s2 s3 s4 s5 s6 s7 s8 s9 s10 s11 s12 s13 s14 s17 : Slot) : ∀ (gs : List Nat) (cells : List D) (s16 : Slot), fr s16 → (∀ g ∈ gs, 0 < g) → cells.length + gs.sum ≤ 90000 →
    ∃ s16', forL (forF (runF prog consts L n) consts L (.var 16) (.cons (.ext 15 (.bin .add (.bin .mul (.lst (.cons (.lit (.int 0)) .nil)) (.bin .sub (.var 16) (.lit (.int 1)))) (.lst (.cons (.lit (.int 1)) .nil)))) .nil)) (gs.map fun g => .int (g : Nat))
      [s0, s1, s2, s3, s4, s5, s6, s7, s8, s9, s10, s11, s12, s13, s14, .own cells, s16, s17] = .next [s0, s1, s2, s3, s4, s5, s6, s7, s8, s9, s10, s11, s12, s13, s14, .own (cells ++ lay gs), s16', s17]
  | [], cells, s16, _, _, _ => ⟨s16, by simp [lay, forL]⟩
  | g :: gs, cells, s16, h, hp, hl => by
    have g0 := hp g (by simp)
    simp only [List.sum_cons] at hl
    obtain ⟨s', hs⟩ := pt_lay_loop s0 s1 s2 s3 s4 s5 s6 s7 s8 s9 s10 s11 s12 s13 s14 s17 gs (cells ++ (List.replicate (g - 1) (.int 0) ++ [.int 1])) (.val (.int g)) (.inr ⟨_, rfl⟩) (fun x hx => hp x (by simp [hx])) (by simp; omega)
    refine ⟨s', ?_⟩
    rw [lay, ← List.append_assoc, ← hs, List.map_cons, forL]
    have e1 : (g : Int) - 1 = ((g - 1 : Nat) : Int) := by omega
    have m1 : binOp .mul (.list [.int 0]) (.int ((g : Int) - 1)) = some (.list (List.replicate (g - 1) (.int 0))) := by
      rw [e1, b_mulL2 _ _ (inR_of (by omega) (by omega)) (le_lim (by simp; omega)), Int.toNat_natCast, flat_rep1]
    have a1 : binOp .add (.list (List.replicate (g - 1) (.int 0))) (.list [.int 1]) = some (.list (List.replicate (g - 1) (.int 0) ++ [.int 1])) := b_addL _ _ (le_lim (by simp; omega))
    have q : cells.length + (g - 1 + 1) ≤ lim := le_lim (by omega)
    rcases h with rfl | ⟨x, rfl⟩ <;> simp [forF, isHeld, le_lim, m1, a1, modL, q]
/-- a dot ahead of each gap's empty cells -/
def lay2 : List Nat → List D
  | [] => []
  | g :: r => (.int 1 :: List.replicate (g - 1) (.int 0)) ++ lay2 r
theorem lay2_len : ∀ (gs : List Nat), (∀ g ∈ gs, 0 < g) → (lay2 gs).length = gs.sum
  | [], _ => rfl
  | g :: r, h => by
    have := h g (by simp)
    simp [lay2, lay2_len r fun x hx => h x (by simp [hx])]
    omega
/-- the two ways to lay the gaps -/
theorem lay_turn : ∀ gs : List Nat, lay2 gs ++ [.int 1] = .int 1 :: lay gs
  | [] => rfl
  | g :: r => by
    rw [lay2, lay, List.append_assoc, lay_turn r]
    simp
theorem dots_loop (s0 s1 s2 s3 s4 : Slot) (c : Nat) : ∀ (gs : List Nat) (pre : List D) (s7 : Slot), fr s7 → (∀ g ∈ gs, 0 < g) → pre.length + gs.sum + c ≤ 90000 →
    ∃ s7', forL (forF (runF prog consts L n) consts L (.var 7) (.cons (.setix 5 (.var 6) (.lit (.int 1))) (.cons (.set 6 (.bin .add (.var 6) (.var 7))) .nil))) (gs.map fun g => .int (g : Nat))
      [s0, s1, s2, s3, s4, .own (pre ++ List.replicate (gs.sum + c) (.int 0)), .val (.int pre.length), s7] = .next [s0, s1, s2, s3, s4, .own (pre ++ lay2 gs ++ List.replicate c (.int 0)), .val (.int ((pre.length + gs.sum : Nat) : Int)), s7']
  | [], pre, s7, _, _, _ => ⟨s7, by simp [lay2, forL]⟩
  | g :: gs, pre, s7, h, hp, hl => by
    have g0 := hp g (by simp)
    simp only [List.sum_cons] at hl
    obtain ⟨s', hs⟩ := dots_loop s0 s1 s2 s3 s4 c gs (pre ++ (.int 1 :: List.replicate (g - 1) (.int 0))) (.val (.int g)) (.inr ⟨_, rfl⟩) (fun x hx => hp x (by simp [hx])) (by simp; omega)
    refine ⟨s', ?_⟩
    have e2 : (pre ++ ((.int 1 : D) :: List.replicate (g - 1) (.int 0 : D))).length = pre.length + g := by simp; omega
    rw [e2] at hs
    have e3 : pre.length + (g :: gs).sum = pre.length + g + gs.sum := by simp; omega
    have pl : place (pre.length + (g + gs.sum + c)) (pre.length : Int) = some pre.length := by
      unfold place
      rw [if_pos (by omega), if_pos (by omega)]
      rfl
    have st : (pre ++ List.replicate (g + gs.sum + c) (.int 0 : D)).set pre.length (.int 1) = pre ++ (.int 1 :: List.replicate (g - 1) (.int 0)) ++ List.replicate (gs.sum + c) (.int 0) := by
      rw [List.set_append_right _ _ (Nat.le_refl _), Nat.sub_self, show g + gs.sum + c = (g - 1 + (gs.sum + c)) + 1 by omega, List.replicate_succ, List.set_cons_zero, ← List.replicate_append_replicate]
      simp
    rw [e3, lay2, ← List.append_assoc, ← hs, List.map_cons, forL]
    rcases h with rfl | ⟨x, rfl⟩ <;> simp [forF, isHeld, putS, modL, pl, st]
end
end TI

set_option Elab.async false
set_option autoImplicit false
set_option maxRecDepth 100000
set_option maxHeartbeats 1000000
set_option linter.all false
/-! W8: gaps_of, and the law's own gaps. -/
namespace TI
open PySem
/-- so many units fill what is left -/
structure Fill (P left : Int) (M : Nat) : Prop where
  p0 : 0 < P
  m1 : 1 ≤ M
  up : left ≤ M * P
  dn : M = 1 ∨ ((M : Int) - 1) * P < left
theorem Fill.units {P left : Int} {M : Nat} (f : Fill P left M) : (if (left + P - 1) / P > 1 then (left + P - 1) / P else 1) = (M : Int) := by
  obtain ⟨p0, m1, up, dn⟩ := f
  have h1 : (left + P - 1) / P ≤ M := by
    have : (left + P - 1) / P < (M : Int) + 1 := Int.ediv_lt_of_lt_mul p0 (by rw [Int.add_mul, Int.one_mul]; omega)
    omega
  rcases dn with dn | dn
  · subst dn
    split <;> omega
  · have h2 : (M : Int) ≤ (left + P - 1) / P := by
      refine Int.le_ediv_of_mul_le p0 ?_
      rw [Int.sub_mul, Int.one_mul] at dn
      omega
    split <;> omega
theorem nums_ints (xs : List Int) : nums (xs.map .int) = some xs := by
  induction xs with
  | nil => rfl
  | cons a r ih => simp [nums, ih]
theorem sum_T (xs : List Int) : biOp .sum [.tuple (xs.map .int)] = some (.int xs.sum, .val) := by
  show (nums (xs.map .int)).map (fun ns => ((PyData.int ns.sum : D), Fl.val)) = _
  rw [nums_ints]; rfl
end TI

set_option Elab.async false
set_option autoImplicit false
set_option maxRecDepth 100000
set_option maxHeartbeats 1000000
set_option linter.all false
/-! W9: gaps_of, and the law's own gaps. -/
namespace TI
open PySem
theorem sum_T1 (a : Int) (xs : List Int) : biOp .sum [.tuple (.int a :: xs.map .int)] = some (.int (a + xs.sum), .val) := by
  have := sum_T (a :: xs)
  simpa using this
theorem sum_L (xs : List Int) : biOp .sum [.list (xs.map .int)] = some (.int xs.sum, .val) := by
  show (nums (xs.map .int)).map (fun ns => ((PyData.int ns.sum : D), Fl.val)) = _
  rw [nums_ints]; rfl
section
variable (n L : Nat)
theorem parts_mid (a b : Int) : runF prog consts L (n + 1) 39 [.val (.tuple [.str "middle", .int a, .int b])] = .ok (.tuple [.tuple [.int a], .tuple [.int b], .tuple [.int a]], .val) [.emp] := by
  rw [runF_s (h := rfl) (l := rfl)]
  simp [fd_parts_of, b_parts_of, c_eqs, le_lim]
theorem parts_side (a b : Int) : runF prog consts L (n + 1) 39 [.val (.tuple [.str "side", .int a, .int b])] = .ok (.tuple [.tuple [.int a], .tuple [.int b, .int a], .tuple []], .val) [.emp] := by
  have h : cmpOp .eq (.str "side") (.str "middle") = some false := by rfl
  rw [runF_s (h := rfl) (l := rfl)]
  simp [fd_parts_of, b_parts_of, h, le_lim]
theorem gaps_is (ent : D) (a u0 whole : Int) (rest tail : List Int) (M : Nat) (h39 : runF prog consts L n 39 [.val ent] = .ok (.tuple [.tuple [.int a], .tuple (.int u0 :: rest.map .int), .tuple (tail.map .int)], .val) [.emp])
    (hr : rest.length ≤ 1) (ht : tail.length ≤ 1) (f : Fill (u0 + rest.sum) (whole - (a + tail.sum)) M) (hP : u0 + rest.sum < 10000) (hM : M ≤ 6000) :
    runF prog consts L (n + 1) 41 [.val ent, .val (.int whole)] = .ok (.list ((a :: gl u0 rest (M * (u0 + rest.sum) - (whole - (a + tail.sum))) M ++ tail).map .int), .fr) [.emp, .emp] := by
  have un := f.units
  have p0 := f.p0
  have dv : binOp .fdiv (.int (whole - (a + tail.sum) + (u0 + rest.sum) - 1)) (.int (u0 + rest.sum)) = some (.int ((whole - (a + tail.sum) + (u0 + rest.sum) - 1) / (u0 + rest.sum))) := b_div _ _ ⟨p0, by omega⟩
  have ml : binOp .mul (.int M) (.int (u0 + rest.sum)) = some (.int (M * (u0 + rest.sum))) := b_mulR _ _ (small_of (by omega) (by omega))
  have a1 : binOp .add (.tuple [.int a]) (.tuple (tail.map .int)) = some (.tuple (.int a :: tail.map .int)) := b_addT _ _ (le_lim (by simp; omega))
  have s1 := sum_T1 a tail
  have s2 := sum_T1 u0 rest
  have i1 : inR (M : Int) = true := inR_of (by omega) (by omega)
  have l1 : biOp .list1 [.tuple [.int a]] = some (.list [.int a], .fr) := rfl
  obtain ⟨l', s9, s10, hl⟩ := gaps_loop n L (.val ent) (.val (.int whole)) (.val (.tuple [.int a])) (.val (.tuple (tail.map .int))) (.val (.int (whole - (a + tail.sum)))) (.val (.int M)) u0 rest hr M 0 (M * (u0 + rest.sum) - (whole - (a + tail.sum))) [a] .emp .emp (.inl rfl) (.inl rfl) (by simp; omega)
  have gll : (gl u0 rest (M * (u0 + rest.sum) - (whole - (a + tail.sum))) M).length + 1 + tail.length ≤ 100000 := by
    have : ∀ (k : Nat) (x : Int), (gl u0 rest x k).length ≤ 2 * k := by
      intro k
      induction k with
      | zero => intro x; simp [gl]
      | succ k ih => intro x; have := ih (x - (if x < 3 then x else 3)); simp [gl]; omega
    have := this M (M * (u0 + rest.sum) - (whole - (a + tail.sum)))
    omega
  have l2 : M ≤ 100000 := by omega
  rw [runF_s (h := rfl) (l := rfl)]
  simp only [List.map_cons, List.map_nil] at hl
  simp [fd_gaps_of, b_gaps_of, h39, putS, pure, a1, s1, s2, dv, un, ml, l1, i1, l2, rangeL_length, le_lim, hl, isHeld, modL, gll]
end
end TI

set_option Elab.async false
set_option autoImplicit false
set_option maxRecDepth 100000
set_option maxHeartbeats 1000000
set_option linter.all false
/-! W10: quiet stretches, the program's and the law's own. -/
namespace TI
open PySem
theorem fill_ex (P left : Int) (p0 : 0 < P) : ∃ M : Nat, Fill P left M := by
  by_cases h : left ≤ P
  · exact ⟨1, p0, by omega, by omega, .inl rfl⟩
  · have d1 := Int.mul_ediv_add_emod (left + P - 1) P
    have d2 := Int.emod_nonneg (left + P - 1) (b := P) (by omega)
    have d3 := Int.emod_lt_of_pos (left + P - 1) p0
    have q1 : 1 ≤ (left + P - 1) / P := Int.le_ediv_of_mul_le p0 (by omega)
    refine ⟨((left + P - 1) / P).toNat, p0, by omega, ?_, .inr ?_⟩
    · rw [Int.toNat_of_nonneg (by omega), Int.mul_comm]; omega
    · rw [Int.toNat_of_nonneg (by omega), Int.sub_mul, Int.mul_comm]; omega
theorem Fill.le {P left : Int} {M : Nat} (f : Fill P left M) (h : left ≤ 5900) : M ≤ 6000 := by
  obtain ⟨p0, m1, up, dn⟩ := f
  rcases dn with dn | dn
  · omega
  · have : ((M : Int) - 1) * 1 ≤ ((M : Int) - 1) * P := Int.mul_le_mul_of_nonneg_left (by omega) (by omega)
    omega
/-- no unit loses more than three cells -/
theorem Fill.fits {P left U : Int} {M : Nat} (f : Fill P left M) (hP : 3 ≤ P) (hU : 1 ≤ U) (hU2 : P ≤ 3 * U + 4) (h : U * (P - 3) ≤ left) : M * P - left ≤ 3 * M := by
  obtain ⟨p0, m1, up, dn⟩ := f
  by_cases c : (M : Int) ≤ U
  · have := Int.mul_le_mul_of_nonneg_right c (show (0 : Int) ≤ P - 3 by omega)
    rw [Int.mul_sub] at this
    omega
  · rcases dn with dn | dn
    · subst dn; omega
    · rw [Int.sub_mul] at dn
      omega
theorem gl_sum (u0 : Int) (rest : List Int) : ∀ (k : Nat) (less : Int), 0 ≤ less → less ≤ 3 * k → (gl u0 rest less k).sum = k * (u0 + rest.sum) - less
  | 0, less, h0, h1 => by simp [gl]; omega
  | k + 1, less, h0, h1 => by
    have ih := gl_sum u0 rest k (less - (if less < 3 then less else 3)) (by split <;> omega) (by split <;> omega)
    rw [gl, List.sum_append, List.sum_cons, ih, show ((k + 1 : Nat) : Int) = (k : Int) + 1 by omega, Int.add_mul]
    omega
theorem gl_pos (u0 : Int) (rest : List Int) (h : 3 < u0) (hr : ∀ r ∈ rest, 0 < r) : ∀ (k : Nat) (less : Int), ∀ g ∈ gl u0 rest less k, 0 < g
  | 0, less, g, hg => by cases hg
  | k + 1, less, g, hg => by
    rw [gl] at hg
    rcases List.mem_append.mp hg with hg | hg
    · rcases List.mem_cons.mp hg with rfl | hg
      · split <;> omega
      · exact hr g hg
    · exact gl_pos u0 rest h hr k _ g hg
/-- positive numbers are natural ones -/
theorem nats_of : ∀ xs : List Int, (∀ x ∈ xs, 0 < x) → ∃ gs : List Nat, xs = gs.map (fun g => ((g : Nat) : Int)) ∧ (∀ g ∈ gs, 0 < g) ∧ ((gs.sum : Nat) : Int) = xs.sum
  | [], _ => ⟨[], rfl, by simp, rfl⟩
  | x :: r, h => by
    obtain ⟨gs, e, p, s⟩ := nats_of r fun y hy => h y (by simp [hy])
    have x0 := h x (by simp)
    refine ⟨x.toNat :: gs, by simp [e, Int.toNat_of_nonneg (Int.le_of_lt x0)], ?_, ?_⟩
    · intro g hg
      rcases List.mem_cons.mp hg with rfl | hg
      · omega
      · exact p g hg
    · simp only [List.sum_cons]
      omega
/-- a quiet room's stretch -/
def quietL (code : List D) (gs : List Nat) : List D := code.reverse ++ lay gs ++ code.tail
/-- a quiet room's gaps: ahead, of a unit, behind -/
structure Rm where
  a : Int
  u0 : Int
  rest : List Int
  tail : List Int
def Rm.P (r : Rm) : Int := r.u0 + r.rest.sum
def Rm.rim (r : Rm) : Int := r.a + r.tail.sum
structure Rm.Ok (r : Rm) : Prop where
  a0 : 0 < r.a
  u3 : 3 < r.u0
  r0 : ∀ x ∈ r.rest, 0 < x
  t0 : ∀ x ∈ r.tail, 0 < x
  rl : r.rest.length ≤ 1
  tl : r.tail.length ≤ 1
  pl : r.P < 10000
/-- all gaps of a stretch -/
def Rm.all (r : Rm) (whole : Int) (M : Nat) : List Int := r.a :: gl r.u0 r.rest (M * r.P - (whole - r.rim)) M ++ r.tail
theorem Rm.all_nats (r : Rm) (ok : r.Ok) (whole : Int) (M : Nat) (f : Fill r.P (whole - r.rim) M) (ft : M * r.P - (whole - r.rim) ≤ 3 * M) :
    ∃ gs : List Nat, r.all whole M = gs.map (fun g => ((g : Nat) : Int)) ∧ (∀ g ∈ gs, 0 < g) ∧ ((gs.sum : Nat) : Int) = whole ∧ gs ≠ [] := by
  have up := f.up
  obtain ⟨gs, e, p, s⟩ := nats_of (r.all whole M) (fun x hx => by
    unfold Rm.all at hx
    rcases List.mem_append.mp hx with hx | hx
    · rcases List.mem_cons.mp hx with rfl | hx
      · exact ok.a0
      · exact gl_pos _ _ ok.u3 ok.r0 _ _ x hx
    · exact ok.t0 x hx)
  refine ⟨gs, e, p, ?_, ?_⟩
  · rw [s]
    unfold Rm.all
    rw [List.sum_append, List.sum_cons, gl_sum _ _ M _ (by omega) ft]
    have : r.P = r.u0 + r.rest.sum := rfl
    have : r.rim = r.a + r.tail.sum := rfl
    rw [← ‹r.P = r.u0 + r.rest.sum›]
    omega
  · rintro rfl
    unfold Rm.all at e
    simp at e
section
variable (n L : Nat)
theorem many_loop (s0 s1 s2 s3 s5 s6 s8 s12 s13 s14 s15 s16 s17 : Slot) (a P wanted : Int) (tail : List Int) (M : Nat) (f : Fill P (wanted - (a + tail.sum)) M) (hP : P < 10000) : ∀ (d m k : Nat), m + d = M → 1 ≤ m → d < k →
    whilW (runF prog consts L n) consts L (.cmp .lt (.bin .add (.bin .add (.var 4) (.bin .mul (.var 11) (.var 9))) (.bi .sum (.cons (.var 7) .nil))) (.var 10)) (.cons (.set 11 (.bin .add (.var 11) (.lit (.int 1)))) .nil) k
      [s0, s1, s2, s3, .val (.int a), s5, s6, .val (.list (tail.map .int)), s8, .val (.int P), .val (.int wanted), .val (.int m), s12, s13, s14, s15, s16, s17] =
      .next [s0, s1, s2, s3, .val (.int a), s5, s6, .val (.list (tail.map .int)), s8, .val (.int P), .val (.int wanted), .val (.int M), s12, s13, s14, s15, s16, s17]
  | 0, m, k, e, m1, hk => by
    obtain ⟨k', rfl⟩ : ∃ k', k = k' + 1 := ⟨k - 1, by omega⟩
    obtain ⟨p0, _, up, dn⟩ := f
    have : m = M := by omega
    subst this
    have ml : binOp .mul (.int m) (.int P) = some (.int (m * P)) := b_mulR _ _ (small_of (by omega) (by omega))
    have c : ¬ (a + m * P + tail.sum < wanted) := by omega
    rw [whilW_s]
    simp [ml, sum_L, c]
  | d + 1, m, k, e, m1, hk => by
    obtain ⟨k', rfl⟩ : ∃ k', k = k' + 1 := ⟨k - 1, by omega⟩
    have ih := many_loop s0 s1 s2 s3 s5 s6 s8 s12 s13 s14 s15 s16 s17 a P wanted tail M f hP d (m + 1) k' (by omega) (by omega) (by omega)
    obtain ⟨p0, _, up, dn⟩ := f
    have ml : binOp .mul (.int m) (.int P) = some (.int (m * P)) := b_mulR _ _ (small_of (by omega) (by omega))
    have c : a + m * P + tail.sum < wanted := by
      rcases dn with dn | dn
      · omega
      · have : (m : Int) * P ≤ ((M : Int) - 1) * P := Int.mul_le_mul_of_nonneg_right (by omega) (by omega)
        omega
    have e1 : ((m + 1 : Nat) : Int) = (m : Int) + 1 := by omega
    rw [e1] at ih
    rw [whilW_s]
    simp [ml, sum_L, c, putS, ih]
end
end TI

set_option Elab.async false
set_option autoImplicit false
set_option maxRecDepth 100000
set_option maxHeartbeats 1000000
set_option linter.all false
/-! W11: a quiet room's stretch, by both. -/
namespace TI
open PySem
theorem gl_len (u0 : Int) (rest : List Int) (h : rest.length ≤ 1) : ∀ (k : Nat) (x : Int), (gl u0 rest x k).length ≤ 2 * k
  | 0, x => by simp [gl]
  | k + 1, x => by
    have := gl_len u0 rest h k (x - (if x < 3 then x else 3))
    simp [gl]; omega
theorem lay2_head (g : Nat) (gs : List Nat) : ∃ X, lay2 (g :: gs) = .int 1 :: X ∧ X ++ [.int 1] = lay (g :: gs) := by
  refine ⟨List.replicate (g - 1) (.int 0) ++ lay2 gs, by simp [lay2], ?_⟩
  have := lay_turn (g :: gs)
  rw [lay2] at this
  simp only [List.cons_append, List.append_assoc, List.cons.injEq, true_and] at this
  rw [List.append_assoc]
  exact this
/-- what a quiet room has: its gaps, its code -/
structure Rt (n L : Nat) (k q room : Int) (r : Rm) (code : List D) (pl : List D) (ent : D) : Prop where
  ok : r.Ok
  cd : code.head? = some (.int 1)
  cl : code.length ≤ 10
  rm : 1 ≤ room
  h36 : runF prog consts L n 36 [.val (.int k), .val (.int q)] = .ok (.tuple pl, .val) [.emp, .emp]
  it : itemAt pl (room - 1) = some ent
  h38 : runF prog consts L n 38 [.val (.int q), .val (.int room)] = .ok (.tuple code, .val) [.emp, .emp]
  h39 : ∀ m, runF prog consts L (m + 1) 39 [.val ent] = .ok (.tuple [.tuple [.int r.a], .tuple (.int r.u0 :: r.rest.map .int), .tuple (r.tail.map .int)], .val) [.emp]
  h71 : runF prog consts L n 71 [.val (.int q), .val (.int room)] = .ok (.tuple code, .val) [.emp, .emp]
  h76 : runF prog consts L n 76 [.val (.int k), .val (.int q), .val (.int room)] = .ok (.tuple [.int r.a, .tuple (.int r.u0 :: r.rest.map .int), match r.tail with | [] => .none | t :: _ => .int t], .val) [.emp, .emp, .emp]
section
variable (n L : Nat)
theorem quiet_of (k q room : Int) (r : Rm) (code pl : List D) (ent : D) (R : Rt (n + 2) L k q room r code pl ent) (size : Nat) (M : Nat) (gs : List Nat) (hs : size ≤ 5000)
    (f : Fill r.P (size - 2 * code.length + 1 - r.rim) M) (hM : M ≤ 6000) (eg : r.all (size - 2 * code.length + 1) M = gs.map (fun g => ((g : Nat) : Int))) (gp : ∀ g ∈ gs, 0 < g) (sg : ((gs.sum : Nat) : Int) = size - 2 * code.length + 1) (gn : gs ≠ []) :
    runF prog consts L (n + 3) 42 [.val (.int k), .val (.int q), .val (.int room), .val (.int size)] = .ok (.tuple (quietL code gs), .val) [.emp, .emp, .emp, .emp] := by
  obtain ⟨ok, cd, cl, rm, h36, it, h38, h39, h71, h76⟩ := R
  have h41 := gaps_is (n + 1) L ent r.a r.u0 (size - 2 * code.length + 1) r.rest r.tail M (h39 n) ok.rl ok.tl f ok.pl hM
  have eg' := eg
  unfold Rm.all Rm.P Rm.rim at eg'
  rw [eg', List.map_map] at h41
  obtain ⟨c0, rfl⟩ : ∃ ct, code = .int 1 :: ct := by
    cases code with
    | nil => cases cd
    | cons x ct => simp at cd; exact ⟨ct, by rw [cd]⟩
  have glen := congrArg List.length eg
  rw [List.length_map] at glen
  have gl1 := gl_len r.u0 r.rest ok.rl M (M * r.P - (size - 2 * (PyData.int 1 :: c0).length + 1 - r.rim))
  unfold Rm.all at glen
  rw [List.length_append, List.length_cons] at glen
  have tl := ok.tl
  have gl2 : gs.length ≤ 100000 := by omega
  simp only [List.length_cons] at cl sg h41
  have e0 : size = c0.length + (gs.sum + (c0.length + 1)) := by omega
  have rep : binOp .mul (.list [.int 0]) (.int size) = some (.list (List.replicate c0.length (.int 0) ++ List.replicate (gs.sum + (c0.length + 1)) (.int 0))) := by
    rw [b_mulL2 _ _ (inR_of (by omega) (by omega)) (le_lim (by simp; omega)), Int.toNat_natCast, flat_rep1, List.replicate_append_replicate, ← e0]
  obtain ⟨s7, dl⟩ := dots_loop (n + 2) L (.val (.int k)) (.val (.int q)) (.val (.int room)) (.val (.int size)) (.val (.tuple (.int 1 :: c0))) (c0.length + 1) gs (List.replicate c0.length (.int 0)) .emp (.inl rfl) gp (by simp; omega)
  rw [List.length_replicate] at dl
  have r0 : ¬ room = 0 := by omega
  have m2 : binOp .mul (.int 2) (.int ((c0.length : Int) + 1)) = some (.int (2 * ((c0.length : Int) + 1))) := b_mulR _ _ (small_of (by omega) (by omega))
  cases gs with
  | nil => exact absurd rfl gn
  | cons g gs =>
    obtain ⟨X, x1, x2⟩ := lay2_head g gs
    have xl : X.length + 1 = (g :: gs).sum := by
      have := lay2_len (g :: gs) gp
      rw [x1] at this
      simpa using this
    rw [x1] at dl
    generalize (g :: gs).sum = S at *
    have sp1 : spliceL (List.replicate c0.length (.int 0 : D) ++ (.int 1 : D) :: X ++ List.replicate (c0.length + 1) (.int 0 : D)) none (some ((c0.length : Int) + 1)) (c0.reverse ++ [(.int 1 : D)]) = some ((c0.reverse ++ [(.int 1 : D)]) ++ (X ++ List.replicate (c0.length + 1) (.int 0))) := by
      unfold spliceL
      have ln : (List.replicate c0.length (.int 0 : D) ++ (.int 1 : D) :: X ++ List.replicate (c0.length + 1) (.int 0 : D)).length = size := by simp; omega
      have cu : cutAt size size (some ((c0.length : Int) + 1)) = c0.length + 1 := by
        unfold cutAt
        simp only []
        rw [if_neg (by omega)]
        omega
      rw [ln, cu, if_pos ⟨by simp [cutAt], le_lim (by simp; omega)⟩]
      have dr : (List.replicate c0.length (.int 0 : D) ++ (.int 1 : D) :: X ++ List.replicate (c0.length + 1) (.int 0 : D)).drop (c0.length + 1) = X ++ List.replicate (c0.length + 1) (.int 0) := by
        rw [List.append_assoc, ← List.drop_drop, List.drop_left' (by simp)]
        rfl
      rw [dr]
      simp [cutAt]
    have sp2 : spliceL ((c0.reverse ++ [(.int 1 : D)]) ++ (X ++ List.replicate (c0.length + 1) (.int 0))) (some ((size : Int) - ((c0.length : Int) + 1))) none (.int 1 :: c0) = some ((c0.reverse ++ [(.int 1 : D)]) ++ X ++ (.int 1 :: c0)) := by
      unfold spliceL
      have ln : ((c0.reverse ++ [(.int 1 : D)]) ++ (X ++ List.replicate (c0.length + 1) (.int 0 : D))).length = size := by simp; omega
      have cu : cutAt size 0 (some ((size : Int) - ((c0.length : Int) + 1))) = size - (c0.length + 1) := by
        unfold cutAt
        simp only []
        rw [if_neg (by omega)]
        omega
      rw [ln, cu, if_pos ⟨by simp [cutAt], le_lim (by simp; omega)⟩]
      have tk : ((c0.reverse ++ [(.int 1 : D)]) ++ (X ++ List.replicate (c0.length + 1) (.int 0 : D))).take (size - (c0.length + 1)) = (c0.reverse ++ [(.int 1 : D)]) ++ X := by
        rw [← List.append_assoc, List.take_left' (by simp; omega)]
      have dr : ((c0.reverse ++ [(.int 1 : D)]) ++ (X ++ List.replicate (c0.length + 1) (.int 0 : D))).drop size = [] := List.drop_of_length_le (by rw [ln]; omega)
      rw [tk]
      simp only [cutAt]
      rw [dr, List.append_nil]
    have fin : quietL (.int 1 :: c0) (g :: gs) = (c0.reverse ++ [(.int 1 : D)]) ++ X ++ (.int 1 :: c0) := by
      unfold quietL
      rw [← x2]
      simp
    have tu : ∀ xs : List D, biOp .tuple1 [.list xs] = some (.tuple xs, .val) := fun _ => rfl
    rw [runF_s (h := rfl) (l := rfl)]
    rw [fin]
    have cc : ((c0.length + 1 : Nat) : Int) = (c0.length : Int) + 1 := by omega
    simp only [List.map_cons, List.length_cons, Function.comp_def, cc] at h41 dl gl2
    rw [List.replicate_append_replicate] at dl
    have sp1' := sp1
    have sp2' := sp2
    simp only [List.append_assoc, List.cons_append, List.nil_append] at sp1' sp2' dl
    simp [fd_stretch_of, b_stretch_of, le_lim, r0, h38, putS, rep, m2, h36, it, h41, dl, gl2, isHeld, modL, sp1', sp2', tu, pure, optE]
theorem pt_quiet_of (k q room : Int) (r : Rm) (code pl : List D) (ent : D) (R : Rt (n + 2) L k q room r code pl ent) (size : Nat) (M : Nat) (gs : List Nat) (hs : size ≤ 5000)
    (f : Fill r.P (size - 2 * code.length + 1 - r.rim) M) (hM : M ≤ 6000) (hL : M < L) (eg : r.all (size - 2 * code.length + 1) M = gs.map (fun g => ((g : Nat) : Int))) (gp : ∀ g ∈ gs, 0 < g) (sg : ((gs.sum : Nat) : Int) = size - 2 * code.length + 1) (gn : gs ≠ []) :
    runF prog consts L (n + 3) 79 [.val (.int k), .val (.int q), .val (.int room), .val (.int size)] = .ok (.tuple (quietL code gs), .val) [.emp, .emp, .emp, .emp] := by
  obtain ⟨ok, cd, cl, rm, h36, it, h38, h39, h71, h76⟩ := R
  have glen := congrArg List.length eg
  rw [List.length_map] at glen
  have gl1 := gl_len r.u0 r.rest ok.rl M (M * r.P - (size - 2 * code.length + 1 - r.rim))
  have eg' := eg
  unfold Rm.all at eg' glen
  rw [List.length_append, List.length_cons] at glen
  have tl := ok.tl
  have gl2 : gs.length ≤ 100000 := by omega
  have r0 : ¬ room = 0 := by omega
  have s2 := sum_T1 r.u0 r.rest
  have pP : r.u0 + r.rest.sum = r.P := rfl
  rw [pP] at s2
  have rimE : r.rim = r.a + r.tail.sum := rfl
  rw [rimE] at f gl1 glen eg'
  have m2 : binOp .mul (.int 2) (.int code.length) = some (.int (2 * (code.length : Int))) := b_mulR _ _ (small_of (by omega) (by omega))
  have ml : binOp .mul (.int M) (.int r.P) = some (.int (M * r.P)) := b_mulR _ _ (small_of (by have := f.p0; omega) (by have := ok.pl; omega))
  have i1 : inR (M : Int) = true := inR_of (by omega) (by omega)
  have l2 : M ≤ 100000 := by omega
  have tu : ∀ xs : List D, biOp .tuple1 [.list xs] = some (.tuple xs, .val) := fun _ => rfl
  have tl1 : ∀ xs : List D, biOp .list1 [.tuple xs] = some (.list xs, .fr) := fun _ => rfl
  have c1 : cut code (some 1) none = code.tail := by
    unfold cut cutAt
    cases code with
    | nil => cases cd
    | cons x ct =>
      have := List.take_length (l := ct)
      simp [this]
  have ll := lay_len gs gp
  have a2 : binOp .add (.list (code.reverse ++ lay gs)) (.list code.tail) = some (.list (quietL code gs)) := b_addL _ _ (le_lim (by simp; omega))
  have hm := many_loop (n + 2) L (.val (.int k)) (.val (.int q)) (.val (.int room)) (.val (.int size)) (.val (.tuple (.int r.u0 :: r.rest.map .int))) (.val (match r.tail with | [] => .none | t :: _ => .int t)) (.val (.tuple code)) .emp .emp .emp .emp .emp .emp r.a r.P (size - 2 * code.length + 1) r.tail M f ok.pl (M - 1) 1 L (by have := f.m1; omega) (by omega) (by omega)
  obtain ⟨l', s14, s17, hg⟩ := pt_gaps_loop (n + 2) L (.val (.int k)) (.val (.int q)) (.val (.int room)) (.val (.int size)) (.val (.int r.a)) (.val (match r.tail with | [] => .none | t :: _ => .int t)) (.val (.list (r.tail.map .int))) (.val (.tuple code)) (.val (.int r.P)) (.val (.int (size - 2 * code.length + 1))) (.val (.int M)) .emp .emp r.u0 r.rest ok.rl M 0 (M * r.P - (size - 2 * code.length + 1 - (r.a + r.tail.sum))) [r.a] .emp .emp (.inl rfl) (.inl rfl) (by simp; omega)
  obtain ⟨s16, hy⟩ := pt_lay_loop (n + 2) L (.val (.int k)) (.val (.int q)) (.val (.int room)) (.val (.int size)) (.val (.int r.a)) (.val (.tuple (.int r.u0 :: r.rest.map .int))) (.val (match r.tail with | [] => .none | t :: _ => .int t)) (.val (.list (r.tail.map .int))) (.val (.tuple code)) (.val (.int r.P)) (.val (.int (size - 2 * code.length + 1))) (.val (.int M)) (.val (.int l')) (.own (([r.a] ++ gl r.u0 r.rest (M * r.P - (size - 2 * code.length + 1 - (r.a + r.tail.sum))) M).map .int)) s14 s17 gs code.reverse .emp (.inl rfl) gp (by simp; omega)
  have less : r.a + M * r.P + r.tail.sum - (size - 2 * code.length + 1) = M * r.P - (size - 2 * code.length + 1 - (r.a + r.tail.sum)) := by omega
  have a3 : binOp .add (.list (([r.a] ++ gl r.u0 r.rest (M * r.P - (size - 2 * code.length + 1 - (r.a + r.tail.sum))) M).map .int)) (.list (r.tail.map .int)) = some (.list (gs.map fun g => .int (g : Nat))) := by
    rw [b_addL _ _ (le_lim (by simp; omega)), ← List.map_append, show (fun g : Nat => PyData.int (g : Nat)) = PyData.int ∘ (fun g : Nat => ((g : Nat) : Int)) from rfl, ← List.map_map, ← eg']
    simp
  have st := sum_L r.tail
  generalize M * r.P - (size - 2 * code.length + 1 - (r.a + r.tail.sum)) = LS at *
  rw [runF_s (h := rfl) (l := rfl)]
  rcases ht : r.tail with _ | ⟨t, _ | ⟨t2, tr⟩⟩
  · rw [ht] at hm hg hy h76 a3 less st
    simp only [List.map_cons, List.map_nil, List.cons_append, List.nil_append, show ((1 : Nat) : Int) = 1 from rfl] at hm hg hy h76 a3 st
    simp only [List.sum_nil, List.sum_cons, Int.add_zero] at less st
    simp [fd_law_pt_quiet_stretch, b_law_pt_quiet_stretch, le_lim, r0, h76, putS, h71, s2, m2, hm, ml, st, less, i1, l2, rangeL_length, hg, tl1, a3, gl2, hy, c1, a2, tu, pure, optE]
  · rw [ht] at hm hg hy h76 a3 less st
    simp only [List.map_cons, List.map_nil, List.cons_append, List.nil_append, show ((1 : Nat) : Int) = 1 from rfl] at hm hg hy h76 a3 st
    simp only [List.sum_nil, List.sum_cons, Int.add_zero] at less st
    simp [fd_law_pt_quiet_stretch, b_law_pt_quiet_stretch, le_lim, r0, h76, putS, h71, s2, m2, hm, ml, st, less, i1, l2, rangeL_length, hg, tl1, a3, gl2, hy, c1, a2, tu, pure, optE]
  · rw [ht] at tl; simp at tl
end
end TI

set_option Elab.async false
set_option autoImplicit false
set_option maxRecDepth 100000
set_option maxHeartbeats 1000000
set_option linter.all false
/-! W12: plans. -/
namespace TI
open PySem
theorem eqv_i (a b : Int) : PyData.eqv (.int a) (.int b) = decide (a = b) := rfl
theorem bi_max1T (xs : List D) : biOp .max1 [.tuple xs] = (nums xs).bind fun ns => (maxL ns).map fun m => (.int m, .val) := rfl
theorem bi_max1L (xs : List D) : biOp .max1 [.list xs] = (nums xs).bind fun ns => (maxL ns).map fun m => (.int m, .val) := rfl
theorem bi_sumT (xs : List D) : biOp .sum [.tuple xs] = (nums xs).map fun ns => (.int ns.sum, .val) := rfl
theorem mt_idxT (xs : List D) (x : D) : mtOp .index (.tuple xs) [x] = if (flat x && xs.all flat) = true then (findEq x xs).map fun j => .int (j : Nat) else none := rfl
theorem mt_idxL (xs : List D) (x : D) : mtOp .index (.list xs) [x] = if (flat x && xs.all flat) = true then (findEq x xs).map fun j => .int (j : Nat) else none := rfl
theorem i0 (s : Int) : ¬ s < s := by omega
def ss (m : Nat) (s : Int) : List D := List.replicate m (.int s)
theorem max_a1 (s : Int) (h : 0 ≤ s) : biOp .max1 [.tuple [.int s]] = some (.int s, .val) ∧ biOp .max1 [.tuple [.int s, .int 0]] = some (.int s, .val) ∧ mtOp .index (.tuple [.int s]) [.int s] = some (.int 0) ∧ biOp .sum [.tuple [.int s]] = some (.int (1 * s), .val) := by
  have h2 : ¬ (0 : Int) > s := by omega
  refine ⟨?_, ?_, ?_, ?_⟩
  · rw [bi_max1T]
    simp [nums, maxL]
  · rw [bi_max1T]
    simp [nums, maxL]; omega
  · rw [mt_idxT]
    simp [flat, findEq, List.findIdx?_cons, eqv_i]
  · rw [bi_sumT]
    simp [nums]; try omega
theorem max_a2 (s : Int) (h : 0 ≤ s) : biOp .max1 [.tuple [.int s, .int s]] = some (.int s, .val) ∧ biOp .max1 [.tuple [.int s, .int s, .int 0]] = some (.int s, .val) ∧ mtOp .index (.tuple [.int s, .int s]) [.int s] = some (.int 0) ∧ biOp .sum [.tuple [.int s, .int s]] = some (.int (2 * s), .val) := by
  have h2 : ¬ (0 : Int) > s := by omega
  refine ⟨?_, ?_, ?_, ?_⟩
  · rw [bi_max1T]
    simp [nums, maxL]
  · rw [bi_max1T]
    simp [nums, maxL]; omega
  · rw [mt_idxT]
    simp [flat, findEq, List.findIdx?_cons, eqv_i]
  · rw [bi_sumT]
    simp [nums]; try omega
theorem max_a3 (s : Int) (h : 0 ≤ s) : biOp .max1 [.tuple [.int s, .int s, .int s]] = some (.int s, .val) ∧ biOp .max1 [.tuple [.int s, .int s, .int s, .int 0]] = some (.int s, .val) ∧ mtOp .index (.tuple [.int s, .int s, .int s]) [.int s] = some (.int 0) ∧ biOp .sum [.tuple [.int s, .int s, .int s]] = some (.int (3 * s), .val) := by
  have h2 : ¬ (0 : Int) > s := by omega
  refine ⟨?_, ?_, ?_, ?_⟩
  · rw [bi_max1T]
    simp [nums, maxL]
  · rw [bi_max1T]
    simp [nums, maxL]; omega
  · rw [mt_idxT]
    simp [flat, findEq, List.findIdx?_cons, eqv_i]
  · rw [bi_sumT]
    simp [nums]; try omega
theorem max_a4 (s : Int) (h : 0 ≤ s) : biOp .max1 [.tuple [.int s, .int s, .int s, .int s]] = some (.int s, .val) ∧ biOp .max1 [.tuple [.int s, .int s, .int s, .int s, .int 0]] = some (.int s, .val) ∧ mtOp .index (.tuple [.int s, .int s, .int s, .int s]) [.int s] = some (.int 0) ∧ biOp .sum [.tuple [.int s, .int s, .int s, .int s]] = some (.int (4 * s), .val) := by
  have h2 : ¬ (0 : Int) > s := by omega
  refine ⟨?_, ?_, ?_, ?_⟩
  · rw [bi_max1T]
    simp [nums, maxL]
  · rw [bi_max1T]
    simp [nums, maxL]; omega
  · rw [mt_idxT]
    simp [flat, findEq, List.findIdx?_cons, eqv_i]
  · rw [bi_sumT]
    simp [nums]; try omega
section
variable (n L : Nat)
theorem tup_x (xs : List D) (a b : Int) : runF prog consts L (n + 1) 2 [.valx (.tuple xs), .val (.int a), .val (.int b)] = .ok (.bool (decide (a ≤ xs.length) && decide ((xs.length : Int) ≤ b)), .val) [.emp, .emp, .emp] := by
  rw [runF_s (h := rfl) (l := rfl)]
  cases h : decide (a ≤ xs.length) <;> simp [fd_is_tuple_of, b_is_tuple_of, isTy, h]
theorem tup_v (xs : List D) (a b : Int) : runF prog consts L (n + 1) 2 [.val (.tuple xs), .val (.int a), .val (.int b)] = .ok (.bool (decide (a ≤ xs.length) && decide ((xs.length : Int) ≤ b)), .val) [.emp, .emp, .emp] := by
  rw [runF_s (h := rfl) (l := rfl)]
  cases h : decide (a ≤ xs.length) <;> simp [fd_is_tuple_of, b_is_tuple_of, isTy, h]
theorem tup_n (d : D) (h : isDict d = false) (h2 : isTy .tuple d = false) (a b : Int) : runF prog consts L (n + 1) 2 [.val d, .val (.int a), .val (.int b)] = .ok (.bool false, .val) [.emp, .emp, .emp] := by
  rw [runF_s (h := rfl) (l := rfl)]
  simp [fd_is_tuple_of, b_is_tuple_of, h, h2]
theorem ts_1 (s : Int) (h1 : 1 ≤ s) (h2 : s ≤ 60) : runF prog consts L (n + 3) 23 [.valx (.tuple [.int s])] = .ok (.tuple [.int s], .xt) [.emp] := by
  rw [runF_s (h := rfl) (l := rfl)]
  simp [fd_made_ts, b_made_ts, tup_x, h1, h2, le_lim, btw_i, enumL, forL, forF, putS]
theorem spare_1 (k s : Int) (h1 : 1 ≤ s) (h2 : s ≤ 60) (k1 : 1 ≤ k) (k2 : k ≤ 60) : runF prog consts L (n + 4) 25 [.val (.int k), .valx (.tuple [.int s])] = .ok (.int (k + s - 2 * (1 * s)), .val) [.emp, .emp] := by
  obtain ⟨x1, x2, x3, x4⟩ := max_a1 s (by omega)
  have a1 : binOp .add (.tuple [.int s]) (.tuple [.int 0]) = some (.tuple [.int s, .int 0]) := rfl
  have m1 : binOp .mul (.int 2) (.int (1 * s)) = some (.int (2 * (1 * s))) := b_mulL _ _ (by decide)
  rw [runF_s (h := rfl) (l := rfl)]
  try simp only [Int.one_mul] at x4 m1 ⊢
  have h24 : runF prog consts L (n + 3) 24 [.val (.int k), .valx (.tuple [.int s])] = .ok (.int (k + s - 2 * (1 * s)), .val) [.emp, .emp] := by
    rw [runF_s (h := rfl) (l := rfl)]
    try simp only [Int.one_mul]
    simp [fd_spare_of, b_spare_of, a1, x2, x4, m1, le_lim]
  try simp only [Int.one_mul] at h24
  simp [fd_spare, b_spare, k_ok n L k k1 k2, ts_1 n L s h1 h2, h24]
theorem mid_1 (s : Int) (h1 : 1 ≤ s) : runF prog consts L (n + 1) 26 [.valx (.tuple [.int s])] = .ok (.int 0, .val) [.emp] := by
  obtain ⟨x1, x2, x3, x4⟩ := max_a1 s (by omega)
  rw [runF_s (h := rfl) (l := rfl)]
  simp [fd_middle_of, b_middle_of, x1, x3, mtOk]
theorem ts_2 (s : Int) (h1 : 1 ≤ s) (h2 : s ≤ 60) : runF prog consts L (n + 3) 23 [.valx (.tuple [.int s, .int s])] = .ok (.tuple [.int s, .int s], .xt) [.emp] := by
  rw [runF_s (h := rfl) (l := rfl)]
  simp [fd_made_ts, b_made_ts, tup_x, h1, h2, le_lim, btw_i, enumL, forL, forF, putS]
theorem spare_2 (k s : Int) (h1 : 1 ≤ s) (h2 : s ≤ 60) (k1 : 1 ≤ k) (k2 : k ≤ 60) : runF prog consts L (n + 4) 25 [.val (.int k), .valx (.tuple [.int s, .int s])] = .ok (.int (k + s - 2 * (2 * s)), .val) [.emp, .emp] := by
  obtain ⟨x1, x2, x3, x4⟩ := max_a2 s (by omega)
  have a1 : binOp .add (.tuple [.int s, .int s]) (.tuple [.int 0]) = some (.tuple [.int s, .int s, .int 0]) := rfl
  have m1 : binOp .mul (.int 2) (.int (2 * s)) = some (.int (2 * (2 * s))) := b_mulL _ _ (by decide)
  rw [runF_s (h := rfl) (l := rfl)]
  try simp only [Int.one_mul] at x4 m1 ⊢
  have h24 : runF prog consts L (n + 3) 24 [.val (.int k), .valx (.tuple [.int s, .int s])] = .ok (.int (k + s - 2 * (2 * s)), .val) [.emp, .emp] := by
    rw [runF_s (h := rfl) (l := rfl)]
    try simp only [Int.one_mul]
    simp [fd_spare_of, b_spare_of, a1, x2, x4, m1, le_lim]
  try simp only [Int.one_mul] at h24
  simp [fd_spare, b_spare, k_ok n L k k1 k2, ts_2 n L s h1 h2, h24]
theorem mid_2 (s : Int) (h1 : 1 ≤ s) : runF prog consts L (n + 1) 26 [.valx (.tuple [.int s, .int s])] = .ok (.int 0, .val) [.emp] := by
  obtain ⟨x1, x2, x3, x4⟩ := max_a2 s (by omega)
  rw [runF_s (h := rfl) (l := rfl)]
  simp [fd_middle_of, b_middle_of, x1, x3, mtOk]
theorem ts_3 (s : Int) (h1 : 1 ≤ s) (h2 : s ≤ 60) : runF prog consts L (n + 3) 23 [.valx (.tuple [.int s, .int s, .int s])] = .ok (.tuple [.int s, .int s, .int s], .xt) [.emp] := by
  rw [runF_s (h := rfl) (l := rfl)]
  simp [fd_made_ts, b_made_ts, tup_x, h1, h2, le_lim, btw_i, enumL, forL, forF, putS]
theorem spare_3 (k s : Int) (h1 : 1 ≤ s) (h2 : s ≤ 60) (k1 : 1 ≤ k) (k2 : k ≤ 60) : runF prog consts L (n + 4) 25 [.val (.int k), .valx (.tuple [.int s, .int s, .int s])] = .ok (.int (k + s - 2 * (3 * s)), .val) [.emp, .emp] := by
  obtain ⟨x1, x2, x3, x4⟩ := max_a3 s (by omega)
  have a1 : binOp .add (.tuple [.int s, .int s, .int s]) (.tuple [.int 0]) = some (.tuple [.int s, .int s, .int s, .int 0]) := rfl
  have m1 : binOp .mul (.int 2) (.int (3 * s)) = some (.int (2 * (3 * s))) := b_mulL _ _ (by decide)
  rw [runF_s (h := rfl) (l := rfl)]
  try simp only [Int.one_mul] at x4 m1 ⊢
  have h24 : runF prog consts L (n + 3) 24 [.val (.int k), .valx (.tuple [.int s, .int s, .int s])] = .ok (.int (k + s - 2 * (3 * s)), .val) [.emp, .emp] := by
    rw [runF_s (h := rfl) (l := rfl)]
    try simp only [Int.one_mul]
    simp [fd_spare_of, b_spare_of, a1, x2, x4, m1, le_lim]
  try simp only [Int.one_mul] at h24
  simp [fd_spare, b_spare, k_ok n L k k1 k2, ts_3 n L s h1 h2, h24]
theorem mid_3 (s : Int) (h1 : 1 ≤ s) : runF prog consts L (n + 1) 26 [.valx (.tuple [.int s, .int s, .int s])] = .ok (.int 0, .val) [.emp] := by
  obtain ⟨x1, x2, x3, x4⟩ := max_a3 s (by omega)
  rw [runF_s (h := rfl) (l := rfl)]
  simp [fd_middle_of, b_middle_of, x1, x3, mtOk]
theorem ts_4 (s : Int) (h1 : 1 ≤ s) (h2 : s ≤ 60) : runF prog consts L (n + 3) 23 [.valx (.tuple [.int s, .int s, .int s, .int s])] = .ok (.tuple [.int s, .int s, .int s, .int s], .xt) [.emp] := by
  rw [runF_s (h := rfl) (l := rfl)]
  simp [fd_made_ts, b_made_ts, tup_x, h1, h2, le_lim, btw_i, enumL, forL, forF, putS]
theorem spare_4 (k s : Int) (h1 : 1 ≤ s) (h2 : s ≤ 60) (k1 : 1 ≤ k) (k2 : k ≤ 60) : runF prog consts L (n + 4) 25 [.val (.int k), .valx (.tuple [.int s, .int s, .int s, .int s])] = .ok (.int (k + s - 2 * (4 * s)), .val) [.emp, .emp] := by
  obtain ⟨x1, x2, x3, x4⟩ := max_a4 s (by omega)
  have a1 : binOp .add (.tuple [.int s, .int s, .int s, .int s]) (.tuple [.int 0]) = some (.tuple [.int s, .int s, .int s, .int s, .int 0]) := rfl
  have m1 : binOp .mul (.int 2) (.int (4 * s)) = some (.int (2 * (4 * s))) := b_mulL _ _ (by decide)
  rw [runF_s (h := rfl) (l := rfl)]
  try simp only [Int.one_mul] at x4 m1 ⊢
  have h24 : runF prog consts L (n + 3) 24 [.val (.int k), .valx (.tuple [.int s, .int s, .int s, .int s])] = .ok (.int (k + s - 2 * (4 * s)), .val) [.emp, .emp] := by
    rw [runF_s (h := rfl) (l := rfl)]
    try simp only [Int.one_mul]
    simp [fd_spare_of, b_spare_of, a1, x2, x4, m1, le_lim]
  try simp only [Int.one_mul] at h24
  simp [fd_spare, b_spare, k_ok n L k k1 k2, ts_4 n L s h1 h2, h24]
theorem mid_4 (s : Int) (h1 : 1 ≤ s) : runF prog consts L (n + 1) 26 [.valx (.tuple [.int s, .int s, .int s, .int s])] = .ok (.int 0, .val) [.emp] := by
  obtain ⟨x1, x2, x3, x4⟩ := max_a4 s (by omega)
  rw [runF_s (h := rfl) (l := rfl)]
  simp [fd_middle_of, b_middle_of, x1, x3, mtOk]
end
end TI

set_option Elab.async false
set_option autoImplicit false
set_option maxRecDepth 100000
set_option maxHeartbeats 1000000
set_option linter.all false
/-! W13: plans, rows. -/
namespace TI
open PySem
section
variable (n L : Nat)
theorem intervals_1 (k s : Int) (h1 : 1 ≤ s) (h2 : s ≤ 60) (k1 : 1 ≤ k) (k2 : k ≤ 60) (h : 2 * (1 * s) ≤ k + s) : runF prog consts L (n + 5) 27 [.val (.int k), .valx (.tuple [.int s])] = .ok (.tuple [.tuple [.int (0 + 1), .int (k - 0)]], .val) [.emp, .emp] := by
  have h0 : ¬ k + s - 2 * (1 * s) < 0 := by omega
  have sp := spare_1 n L k s h1 h2 k1 k2
  generalize k + s - 2 * (1 * s) = z at *
  have tu : ∀ xs : List D, biOp .tuple1 [.list xs] = some (.tuple xs, .val) := fun _ => rfl
  rw [runF_s (h := rfl) (l := rfl)]
  simp [fd_intervals, b_intervals, sp, h0, putS, le_lim, lt_lim, enumL, forL, forF, mid_1 n.succ.succ.succ L s h1, mid_1 (n + 3) L s h1, isHeld, modL, place, tu, pure]
  try omega
theorem rows_1 (k s : Int) (h1 : 1 ≤ s) (h2 : s ≤ 60) (k1 : 1 ≤ k) (k2 : k ≤ 60) (h : 2 * (1 * s) ≤ k + s) : runF prog consts L (n + 6) 28 [.val (.int k), .valx (.tuple [.int s])] = .ok (.tuple [.tuple [.int (k - 0)]], .val) [.emp, .emp] := by
  have iv := intervals_1 n L k s h1 h2 k1 k2 h
  have tu : ∀ xs : List D, biOp .tuple1 [.list xs] = some (.tuple xs, .val) := fun _ => rfl
  rw [runF_s (h := rfl) (l := rfl)]
  simp [fd_thin_rows, b_thin_rows, iv, putS, le_lim, lt_lim, enumL, forL, forF, mid_1 (n + 4) L s h1, isHeld, modL, tu]
  try omega
theorem code_size_2 : runF prog consts L (n + 1) 32 [.val (.int 2)] = .ok (.int 1, .val) [.emp] := by
  rw [runF_s (h := rfl) (l := rfl)]
  simp [fd_size_of_code, b_size_of_code, mtOk, mtOp, bitlen, Builtin.Int.intBits]
  try rfl
theorem plan_2 (k s : Int) (hs : k / 1 = s) (h1 : 1 ≤ s) (h2 : s ≤ 60) (k1 : 1 ≤ k) (k2 : k ≤ 60) (h : 2 * (1 * s) ≤ k + s) : runF prog consts L (n + 7) 36 [.val (.int k), .val (.int 2)] = .ok (.tuple [.tuple [.str "middle", .int (k - 0 - 1 - 2), .int (k - 0)]], .val) [.emp, .emp] := by
  have rw0 := rows_1 n L k s h1 h2 k1 k2 h
  have tu : ∀ xs : List D, biOp .tuple1 [.list xs] = some (.tuple xs, .val) := fun _ => rfl
  have dv : binOp .fdiv (.int k) (.int 1) = some (.int s) := by rw [b_div _ _ (by decide), hs]
  have ir : inR 1 = true := by decide
  rw [runF_s (h := rfl) (l := rfl)]
  simp [fd_plan_of, b_plan_of, rw0, dv, ir, putS, le_lim, lt_lim, enumL, forL, forF, code_size_2 (n + 5) L, isHeld, modL, tu, b_mul, small, itemAt, place]
  try omega
theorem intervals_2 (k s : Int) (h1 : 1 ≤ s) (h2 : s ≤ 60) (k1 : 1 ≤ k) (k2 : k ≤ 60) (h : 2 * (2 * s) ≤ k + s) : runF prog consts L (n + 5) 27 [.val (.int k), .valx (.tuple [.int s, .int s])] = .ok (.tuple [.tuple [.int (s + 1), .int (k - s)], .tuple [.int (0 + 1), .int (s)]], .val) [.emp, .emp] := by
  have h0 : ¬ k + s - 2 * (2 * s) < 0 := by omega
  have sp := spare_2 n L k s h1 h2 k1 k2
  generalize k + s - 2 * (2 * s) = z at *
  have tu : ∀ xs : List D, biOp .tuple1 [.list xs] = some (.tuple xs, .val) := fun _ => rfl
  rw [runF_s (h := rfl) (l := rfl)]
  simp [fd_intervals, b_intervals, sp, h0, putS, le_lim, lt_lim, enumL, forL, forF, mid_2 n.succ.succ.succ L s h1, mid_2 (n + 3) L s h1, isHeld, modL, place, tu, pure]
  try omega
theorem rows_2 (k s : Int) (h1 : 1 ≤ s) (h2 : s ≤ 60) (k1 : 1 ≤ k) (k2 : k ≤ 60) (h : 2 * (2 * s) ≤ k + s) : runF prog consts L (n + 6) 28 [.val (.int k), .valx (.tuple [.int s, .int s])] = .ok (.tuple [.tuple [.int (k - s)], .tuple [.int (k - 0), .int (s)]], .val) [.emp, .emp] := by
  have iv := intervals_2 n L k s h1 h2 k1 k2 h
  have tu : ∀ xs : List D, biOp .tuple1 [.list xs] = some (.tuple xs, .val) := fun _ => rfl
  rw [runF_s (h := rfl) (l := rfl)]
  simp [fd_thin_rows, b_thin_rows, iv, putS, le_lim, lt_lim, enumL, forL, forF, mid_2 (n + 4) L s h1, isHeld, modL, tu]
  try omega
theorem code_size_3 : runF prog consts L (n + 1) 32 [.val (.int 3)] = .ok (.int 2, .val) [.emp] := by
  rw [runF_s (h := rfl) (l := rfl)]
  simp [fd_size_of_code, b_size_of_code, mtOk, mtOp, bitlen, Builtin.Int.intBits]
  try rfl
theorem plan_3 (k s : Int) (hs : k / 3 = s) (h1 : 1 ≤ s) (h2 : s ≤ 60) (k1 : 1 ≤ k) (k2 : k ≤ 60) (h : 2 * (2 * s) ≤ k + s) : runF prog consts L (n + 7) 36 [.val (.int k), .val (.int 3)] = .ok (.tuple [.tuple [.str "middle", .int (k - s - 2 - 2), .int (k - s)], .tuple [.str "side", .int (s), .int (k - 0)]], .val) [.emp, .emp] := by
  have rw0 := rows_2 n L k s h1 h2 k1 k2 h
  have tu : ∀ xs : List D, biOp .tuple1 [.list xs] = some (.tuple xs, .val) := fun _ => rfl
  have dv : binOp .fdiv (.int k) (.int 3) = some (.int s) := by rw [b_div _ _ (by decide), hs]
  have ir : inR 2 = true := by decide
  rw [runF_s (h := rfl) (l := rfl)]
  simp [fd_plan_of, b_plan_of, rw0, dv, ir, putS, le_lim, lt_lim, enumL, forL, forF, code_size_3 (n + 5) L, isHeld, modL, tu, b_mul, small, itemAt, place]
  try omega
theorem intervals_3 (k s : Int) (h1 : 1 ≤ s) (h2 : s ≤ 60) (k1 : 1 ≤ k) (k2 : k ≤ 60) (h : 2 * (3 * s) ≤ k + s) : runF prog consts L (n + 5) 27 [.val (.int k), .valx (.tuple [.int s, .int s, .int s])] = .ok (.tuple [.tuple [.int (2 * s + 1), .int (k - 2 * s)], .tuple [.int (0 + 1), .int (s)], .tuple [.int (s + 1), .int (2 * s)]], .val) [.emp, .emp] := by
  have h0 : ¬ k + s - 2 * (3 * s) < 0 := by omega
  have sp := spare_3 n L k s h1 h2 k1 k2
  generalize k + s - 2 * (3 * s) = z at *
  have tu : ∀ xs : List D, biOp .tuple1 [.list xs] = some (.tuple xs, .val) := fun _ => rfl
  rw [runF_s (h := rfl) (l := rfl)]
  simp [fd_intervals, b_intervals, sp, h0, putS, le_lim, lt_lim, enumL, forL, forF, mid_3 n.succ.succ.succ L s h1, mid_3 (n + 3) L s h1, isHeld, modL, place, tu, pure]
  try omega
theorem rows_3 (k s : Int) (h1 : 1 ≤ s) (h2 : s ≤ 60) (k1 : 1 ≤ k) (k2 : k ≤ 60) (h : 2 * (3 * s) ≤ k + s) : runF prog consts L (n + 6) 28 [.val (.int k), .valx (.tuple [.int s, .int s, .int s])] = .ok (.tuple [.tuple [.int (k - 2 * s)], .tuple [.int (k - 0), .int (s)], .tuple [.int (k - s), .int (2 * s)]], .val) [.emp, .emp] := by
  have iv := intervals_3 n L k s h1 h2 k1 k2 h
  have tu : ∀ xs : List D, biOp .tuple1 [.list xs] = some (.tuple xs, .val) := fun _ => rfl
  rw [runF_s (h := rfl) (l := rfl)]
  simp [fd_thin_rows, b_thin_rows, iv, putS, le_lim, lt_lim, enumL, forL, forF, mid_3 (n + 4) L s h1, isHeld, modL, tu]
  try omega
theorem code_size_4 : runF prog consts L (n + 1) 32 [.val (.int 4)] = .ok (.int 3, .val) [.emp] := by
  rw [runF_s (h := rfl) (l := rfl)]
  simp [fd_size_of_code, b_size_of_code, mtOk, mtOp, bitlen, Builtin.Int.intBits]
  try rfl
theorem plan_4 (k s : Int) (hs : k / 5 = s) (h1 : 1 ≤ s) (h2 : s ≤ 60) (k1 : 1 ≤ k) (k2 : k ≤ 60) (h : 2 * (3 * s) ≤ k + s) : runF prog consts L (n + 7) 36 [.val (.int k), .val (.int 4)] = .ok (.tuple [.tuple [.str "middle", .int (k - 2 * s - 3 - 2), .int (k - 2 * s)], .tuple [.str "side", .int (s), .int (k - 0)], .tuple [.str "side", .int (2 * s), .int (k - s)]], .val) [.emp, .emp] := by
  have rw0 := rows_3 n L k s h1 h2 k1 k2 h
  have tu : ∀ xs : List D, biOp .tuple1 [.list xs] = some (.tuple xs, .val) := fun _ => rfl
  have dv : binOp .fdiv (.int k) (.int 5) = some (.int s) := by rw [b_div _ _ (by decide), hs]
  have ir : inR 3 = true := by decide
  rw [runF_s (h := rfl) (l := rfl)]
  simp [fd_plan_of, b_plan_of, rw0, dv, ir, putS, le_lim, lt_lim, enumL, forL, forF, code_size_4 (n + 5) L, isHeld, modL, tu, b_mul, small, itemAt, place]
  try omega
theorem intervals_4 (k s : Int) (h1 : 1 ≤ s) (h2 : s ≤ 60) (k1 : 1 ≤ k) (k2 : k ≤ 60) (h : 2 * (4 * s) ≤ k + s) : runF prog consts L (n + 5) 27 [.val (.int k), .valx (.tuple [.int s, .int s, .int s, .int s])] = .ok (.tuple [.tuple [.int (3 * s + 1), .int (k - 3 * s)], .tuple [.int (0 + 1), .int (s)], .tuple [.int (s + 1), .int (2 * s)], .tuple [.int (2 * s + 1), .int (3 * s)]], .val) [.emp, .emp] := by
  have h0 : ¬ k + s - 2 * (4 * s) < 0 := by omega
  have sp := spare_4 n L k s h1 h2 k1 k2
  generalize k + s - 2 * (4 * s) = z at *
  have tu : ∀ xs : List D, biOp .tuple1 [.list xs] = some (.tuple xs, .val) := fun _ => rfl
  rw [runF_s (h := rfl) (l := rfl)]
  simp [fd_intervals, b_intervals, sp, h0, putS, le_lim, lt_lim, enumL, forL, forF, mid_4 n.succ.succ.succ L s h1, mid_4 (n + 3) L s h1, isHeld, modL, place, tu, pure]
  try omega
theorem rows_4 (k s : Int) (h1 : 1 ≤ s) (h2 : s ≤ 60) (k1 : 1 ≤ k) (k2 : k ≤ 60) (h : 2 * (4 * s) ≤ k + s) : runF prog consts L (n + 6) 28 [.val (.int k), .valx (.tuple [.int s, .int s, .int s, .int s])] = .ok (.tuple [.tuple [.int (k - 3 * s)], .tuple [.int (k - 0), .int (s)], .tuple [.int (k - s), .int (2 * s)], .tuple [.int (k - 2 * s), .int (3 * s)]], .val) [.emp, .emp] := by
  have iv := intervals_4 n L k s h1 h2 k1 k2 h
  have tu : ∀ xs : List D, biOp .tuple1 [.list xs] = some (.tuple xs, .val) := fun _ => rfl
  rw [runF_s (h := rfl) (l := rfl)]
  simp [fd_thin_rows, b_thin_rows, iv, putS, le_lim, lt_lim, enumL, forL, forF, mid_4 (n + 4) L s h1, isHeld, modL, tu]
  try omega
theorem code_size_5 : runF prog consts L (n + 1) 32 [.val (.int 5)] = .ok (.int 3, .val) [.emp] := by
  rw [runF_s (h := rfl) (l := rfl)]
  simp [fd_size_of_code, b_size_of_code, mtOk, mtOp, bitlen, Builtin.Int.intBits]
  try rfl
theorem plan_5 (k s : Int) (hs : k / 7 = s) (h1 : 1 ≤ s) (h2 : s ≤ 60) (k1 : 1 ≤ k) (k2 : k ≤ 60) (h : 2 * (4 * s) ≤ k + s) : runF prog consts L (n + 7) 36 [.val (.int k), .val (.int 5)] = .ok (.tuple [.tuple [.str "middle", .int (k - 3 * s - 3 - 2), .int (k - 3 * s)], .tuple [.str "side", .int (s), .int (k - 0)], .tuple [.str "side", .int (2 * s), .int (k - s)], .tuple [.str "side", .int (3 * s), .int (k - 2 * s)]], .val) [.emp, .emp] := by
  have rw0 := rows_4 n L k s h1 h2 k1 k2 h
  have tu : ∀ xs : List D, biOp .tuple1 [.list xs] = some (.tuple xs, .val) := fun _ => rfl
  have dv : binOp .fdiv (.int k) (.int 7) = some (.int s) := by rw [b_div _ _ (by decide), hs]
  have ir : inR 4 = true := by decide
  rw [runF_s (h := rfl) (l := rfl)]
  simp [fd_plan_of, b_plan_of, rw0, dv, ir, putS, le_lim, lt_lim, enumL, forL, forF, code_size_5 (n + 5) L, isHeld, modL, tu, b_mul, small, itemAt, place]
  try omega
end
end TI

set_option Elab.async false
set_option autoImplicit false
set_option maxRecDepth 100000
set_option maxHeartbeats 1000000
set_option linter.all false
/-! W14: small numbers: codes, units. -/
namespace TI
open PySem
/-- binary digits, so many -/
def digs : Nat → Nat → List D
  | _, 0 => []
  | r, k + 1 => .int ((r % 2 : Nat) : Int) :: .int 0 :: digs (r / 2) k
def digc : Nat → Nat → List D
  | _, 0 => []
  | r, k + 1 => .int ((r % 2 : Nat) : Int) :: digc (r / 2) k
/-- digits of a number of so many loud rooms -/
def dlo (l : Nat) : Nat := if l ≤ 1 then 0 else if l ≤ 2 then 1 else if l ≤ 4 then 2 else 3
def unitL (l r : Nat) : List D := .int 1 :: .int 1 :: .int 1 :: .int 1 :: .int 0 :: digs r (dlo l)
def uz (l : Nat) : Nat := 5 + 2 * dlo l
/-- cells of a code -/
def cq (q : Nat) : Nat := if q < 2 then 0 else if q = 2 then 1 else if q = 3 then 2 else 3
def codeL (q room : Nat) : List D := .int 1 :: digc (room - 1) (cq q - 1)
def sf (q : Nat) : Int := if q < 2 then 1 else if q = 2 then 4 else if q = 3 then 15 else if q = 4 then 30 else 42
section
variable (n : Nat)
theorem unit_48 (l r : Nat) (h : l < 8) (hr : r < l) : runF prog consts 200000 (n + 2) 48 [.val (.int l), .val (.int r)] = .ok (.tuple (unitL l r), .val) [.emp, .emp] := by
  match l, r, h, hr with
  | 1, 0, _, _ => kernel_rfl
  | 1, z + 1, _, h => exact absurd h (by omega)
  | 2, 0, _, _ => kernel_rfl
  | 2, 1, _, _ => kernel_rfl
  | 2, z + 2, _, h => exact absurd h (by omega)
  | 3, 0, _, _ => kernel_rfl
  | 3, 1, _, _ => kernel_rfl
  | 3, 2, _, _ => kernel_rfl
  | 3, z + 3, _, h => exact absurd h (by omega)
  | 4, 0, _, _ => kernel_rfl
  | 4, 1, _, _ => kernel_rfl
  | 4, 2, _, _ => kernel_rfl
  | 4, 3, _, _ => kernel_rfl
  | 4, z + 4, _, h => exact absurd h (by omega)
  | 5, 0, _, _ => kernel_rfl
  | 5, 1, _, _ => kernel_rfl
  | 5, 2, _, _ => kernel_rfl
  | 5, 3, _, _ => kernel_rfl
  | 5, 4, _, _ => kernel_rfl
  | 5, z + 5, _, h => exact absurd h (by omega)
  | 6, 0, _, _ => kernel_rfl
  | 6, 1, _, _ => kernel_rfl
  | 6, 2, _, _ => kernel_rfl
  | 6, 3, _, _ => kernel_rfl
  | 6, 4, _, _ => kernel_rfl
  | 6, 5, _, _ => kernel_rfl
  | 6, z + 6, _, h => exact absurd h (by omega)
  | 7, 0, _, _ => kernel_rfl
  | 7, 1, _, _ => kernel_rfl
  | 7, 2, _, _ => kernel_rfl
  | 7, 3, _, _ => kernel_rfl
  | 7, 4, _, _ => kernel_rfl
  | 7, 5, _, _ => kernel_rfl
  | 7, 6, _, _ => kernel_rfl
  | 7, z + 7, _, h => exact absurd h (by omega)
  | 0, z, _, h => exact absurd h (by omega)
  | z + 8, _, h, _ => exact absurd h (by omega)
theorem unit_74 (l r : Nat) (h : l < 8) (hr : r < l) : runF prog consts 200000 (n + 2) 74 [.val (.int l), .val (.int r)] = .ok (.tuple (unitL l r), .val) [.emp, .emp] := by
  match l, r, h, hr with
  | 1, 0, _, _ => kernel_rfl
  | 1, z + 1, _, h => exact absurd h (by omega)
  | 2, 0, _, _ => kernel_rfl
  | 2, 1, _, _ => kernel_rfl
  | 2, z + 2, _, h => exact absurd h (by omega)
  | 3, 0, _, _ => kernel_rfl
  | 3, 1, _, _ => kernel_rfl
  | 3, 2, _, _ => kernel_rfl
  | 3, z + 3, _, h => exact absurd h (by omega)
  | 4, 0, _, _ => kernel_rfl
  | 4, 1, _, _ => kernel_rfl
  | 4, 2, _, _ => kernel_rfl
  | 4, 3, _, _ => kernel_rfl
  | 4, z + 4, _, h => exact absurd h (by omega)
  | 5, 0, _, _ => kernel_rfl
  | 5, 1, _, _ => kernel_rfl
  | 5, 2, _, _ => kernel_rfl
  | 5, 3, _, _ => kernel_rfl
  | 5, 4, _, _ => kernel_rfl
  | 5, z + 5, _, h => exact absurd h (by omega)
  | 6, 0, _, _ => kernel_rfl
  | 6, 1, _, _ => kernel_rfl
  | 6, 2, _, _ => kernel_rfl
  | 6, 3, _, _ => kernel_rfl
  | 6, 4, _, _ => kernel_rfl
  | 6, 5, _, _ => kernel_rfl
  | 6, z + 6, _, h => exact absurd h (by omega)
  | 7, 0, _, _ => kernel_rfl
  | 7, 1, _, _ => kernel_rfl
  | 7, 2, _, _ => kernel_rfl
  | 7, 3, _, _ => kernel_rfl
  | 7, 4, _, _ => kernel_rfl
  | 7, 5, _, _ => kernel_rfl
  | 7, 6, _, _ => kernel_rfl
  | 7, z + 7, _, h => exact absurd h (by omega)
  | 0, z, _, h => exact absurd h (by omega)
  | z + 8, _, h, _ => exact absurd h (by omega)
theorem usz_46 (l : Nat) (h1 : 1 ≤ l) (h : l < 8) : runF prog consts 200000 (n + 2) 46 [.val (.int l)] = .ok (.int (uz l : Nat), .val) [.emp] := by
  match l, h1, h with
  | 1, _, _ => kernel_rfl
  | 2, _, _ => kernel_rfl
  | 3, _, _ => kernel_rfl
  | 4, _, _ => kernel_rfl
  | 5, _, _ => kernel_rfl
  | 6, _, _ => kernel_rfl
  | 7, _, _ => kernel_rfl
  | 0, h, _ => exact absurd h (by omega)
  | z + 8, _, h => exact absurd h (by omega)
theorem usz_73 (l : Nat) (h1 : 1 ≤ l) (h : l < 8) : runF prog consts 200000 (n + 2) 73 [.val (.int l)] = .ok (.int (uz l : Nat), .val) [.emp] := by
  match l, h1, h with
  | 1, _, _ => kernel_rfl
  | 2, _, _ => kernel_rfl
  | 3, _, _ => kernel_rfl
  | 4, _, _ => kernel_rfl
  | 5, _, _ => kernel_rfl
  | 6, _, _ => kernel_rfl
  | 7, _, _ => kernel_rfl
  | 0, h, _ => exact absurd h (by omega)
  | z + 8, _, h => exact absurd h (by omega)
theorem cs_32 (q : Nat) (h1 : 0 ≤ q) (h : q < 6) : runF prog consts 200000 (n + 1) 32 [.val (.int q)] = .ok (.int (cq q : Nat), .val) [.emp] := by
  match q, h1, h with
  | 0, _, _ => kernel_rfl
  | 1, _, _ => kernel_rfl
  | 2, _, _ => kernel_rfl
  | 3, _, _ => kernel_rfl
  | 4, _, _ => kernel_rfl
  | 5, _, _ => kernel_rfl
  | z + 6, _, h => exact absurd h (by omega)
theorem cs_70 (q : Nat) (h1 : 0 ≤ q) (h : q < 6) : runF prog consts 200000 (n + 2) 70 [.val (.int q)] = .ok (.int (cq q : Nat), .val) [.emp] := by
  match q, h1, h with
  | 0, _, _ => kernel_rfl
  | 1, _, _ => kernel_rfl
  | 2, _, _ => kernel_rfl
  | 3, _, _ => kernel_rfl
  | 4, _, _ => kernel_rfl
  | 5, _, _ => kernel_rfl
  | z + 6, _, h => exact absurd h (by omega)
theorem sf_33 (q : Nat) (h1 : 0 ≤ q) (h : q < 6) : runF prog consts 200000 (n + 2) 33 [.val (.int q)] = .ok (.int (sf q), .val) [.emp] := by
  match q, h1, h with
  | 0, _, _ => kernel_rfl
  | 1, _, _ => kernel_rfl
  | 2, _, _ => kernel_rfl
  | 3, _, _ => kernel_rfl
  | 4, _, _ => kernel_rfl
  | 5, _, _ => kernel_rfl
  | z + 6, _, h => exact absurd h (by omega)
theorem sf_72 (q : Nat) (h1 : 0 ≤ q) (h : q < 6) : runF prog consts 200000 (n + 3) 72 [.val (.int q)] = .ok (.int (sf q), .val) [.emp] := by
  match q, h1, h with
  | 0, _, _ => kernel_rfl
  | 1, _, _ => kernel_rfl
  | 2, _, _ => kernel_rfl
  | 3, _, _ => kernel_rfl
  | 4, _, _ => kernel_rfl
  | 5, _, _ => kernel_rfl
  | z + 6, _, h => exact absurd h (by omega)
theorem code_38 (q r : Nat) (h : q < 6) (r1 : 1 ≤ r) (hr : r < q) : runF prog consts 200000 (n + 2) 38 [.val (.int q), .val (.int r)] = .ok (.tuple (codeL q r), .val) [.emp, .emp] := by
  match q, r, h, r1, hr with
  | 2, 1, _, _, _ => kernel_rfl
  | 2, z + 2, _, _, h => exact absurd h (by omega)
  | 3, 1, _, _, _ => kernel_rfl
  | 3, 2, _, _, _ => kernel_rfl
  | 3, z + 3, _, _, h => exact absurd h (by omega)
  | 4, 1, _, _, _ => kernel_rfl
  | 4, 2, _, _, _ => kernel_rfl
  | 4, 3, _, _, _ => kernel_rfl
  | 4, z + 4, _, _, h => exact absurd h (by omega)
  | 5, 1, _, _, _ => kernel_rfl
  | 5, 2, _, _, _ => kernel_rfl
  | 5, 3, _, _, _ => kernel_rfl
  | 5, 4, _, _, _ => kernel_rfl
  | 5, z + 5, _, _, h => exact absurd h (by omega)
  | 0, z, _, _, h => exact absurd h (by omega)
  | 1, z + 1, _, _, h => exact absurd h (by omega)
  | _, 0, _, h, _ => exact absurd h (by omega)
  | z + 6, _, h, _, _ => exact absurd h (by omega)
theorem code_71 (q r : Nat) (h : q < 6) (r1 : 1 ≤ r) (hr : r < q) : runF prog consts 200000 (n + 3) 71 [.val (.int q), .val (.int r)] = .ok (.tuple (codeL q r), .val) [.emp, .emp] := by
  match q, r, h, r1, hr with
  | 2, 1, _, _, _ => kernel_rfl
  | 2, z + 2, _, _, h => exact absurd h (by omega)
  | 3, 1, _, _, _ => kernel_rfl
  | 3, 2, _, _, _ => kernel_rfl
  | 3, z + 3, _, _, h => exact absurd h (by omega)
  | 4, 1, _, _, _ => kernel_rfl
  | 4, 2, _, _, _ => kernel_rfl
  | 4, 3, _, _, _ => kernel_rfl
  | 4, z + 4, _, _, h => exact absurd h (by omega)
  | 5, 1, _, _, _ => kernel_rfl
  | 5, 2, _, _, _ => kernel_rfl
  | 5, 3, _, _, _ => kernel_rfl
  | 5, 4, _, _, _ => kernel_rfl
  | 5, z + 5, _, _, h => exact absurd h (by omega)
  | 0, z, _, _, h => exact absurd h (by omega)
  | 1, z + 1, _, _, h => exact absurd h (by omega)
  | _, 0, _, h, _ => exact absurd h (by omega)
  | z + 6, _, h, _, _ => exact absurd h (by omega)
end
end TI

set_option Elab.async false
set_option autoImplicit false
set_option maxRecDepth 100000
set_option maxHeartbeats 1000000
set_option linter.all false
/-! W15: a plan's rooms, least sizes. -/
namespace TI
open PySem
/-- a quiet room's gaps; its entry of the plan -/
def rmq (q : Nat) (k s : Int) (room : Nat) : Rm := if room = 1 then ⟨k - ((q : Int) - 2) * s - cq q - 2, k - ((q : Int) - 2) * s, [], [k - ((q : Int) - 2) * s - cq q - 2]⟩
  else ⟨((room : Int) - 1) * s, k - ((room : Int) - 2) * s, [((room : Int) - 1) * s], []⟩
def entq (q : Nat) (k s : Int) (room : Nat) : D := if room = 1 then .tuple [.str "middle", .int (rmq q k s room).a, .int (rmq q k s room).u0] else .tuple [.str "side", .int (rmq q k s room).a, .int (rmq q k s room).u0]
/-- a right number of quiet rooms, of views; the share -/
structure Pq (q : Nat) (k s : Int) : Prop where
  q6 : q < 6
  k0 : 1 ≤ k
  k6 : k ≤ 60
  hs : 2 ≤ q → k / (2 * (q : Int) - 3) = s
  hk : sf q ≤ k
theorem Pq.share {q : Nat} {k s : Int} (p : Pq q k s) (h : 2 ≤ q) : (cq q : Int) + 3 ≤ s ∧ s ≤ 60 ∧ (2 * (q : Int) - 3) * s ≤ k ∧ k + s ≤ 120 := by
  obtain ⟨q6, k0, k6, hs, hk⟩ := p
  have := hs h
  have e : q = 2 ∨ q = 3 ∨ q = 4 ∨ q = 5 := by omega
  rcases e with rfl | rfl | rfl | rfl <;> simp [sf] at hk <;> simp [cq] <;> simp at this <;> omega
theorem rmq_ok {q : Nat} {k s : Int} (p : Pq q k s) (room : Nat) (h1 : 1 ≤ room) (h2 : room < q) : (rmq q k s room).Ok := by
  obtain ⟨s1, s2, s3, s4⟩ := p.share (by omega)
  have q6 := p.q6
  have k6 := p.k6
  have e : q = 2 ∨ q = 3 ∨ q = 4 ∨ q = 5 := by omega
  have f : room = 1 ∨ room = 2 ∨ room = 3 ∨ room = 4 := by omega
  rcases e with rfl | rfl | rfl | rfl <;> rcases f with rfl | rfl | rfl | rfl <;> first | (exfalso; omega) | (simp [cq] at s1 s3; constructor <;> simp [rmq, cq, Rm.P] <;> omega)
/-- .. how a size is found -/
def stepS (c : Int) (r : Rm) (f : Int) : Int :=
  let u := if (r.P - 4 + 2) / 3 > 1 then (r.P - 4 + 2) / 3 else 1
  if 2 * c - 1 + r.rim + u * (r.P - 3) > f then 2 * c - 1 + r.rim + u * (r.P - 3) else f
def rms (q : Nat) (k s : Int) : Nat → Nat → List Rm
  | _, 0 => []
  | i, m + 1 => rmq q k s i :: rms q k s (i + 1) m
def ents (q : Nat) (k s : Int) : Nat → Nat → List D
  | _, 0 => []
  | i, m + 1 => entq q k s i :: ents q k s (i + 1) m
def shq (q : Nat) (k s : Int) : Int := (rms q k s 1 (q - 1)).foldl (fun f r => stepS (cq q) r f) (3 * k)
section
variable (n : Nat)
theorem plan_is {q : Nat} {k s : Int} (p : Pq q k s) : runF prog consts 200000 (n + 7) 36 [.val (.int k), .val (.int q)] = .ok (.tuple (ents q k s 1 (q - 1)), .val) [.emp, .emp] := by
  have q6 := p.q6
  have k0 := p.k0
  have k6 := p.k6
  by_cases h2 : 2 ≤ q
  · obtain ⟨s1, s2, s3, s4⟩ := p.share h2
    have hs := p.hs h2
    have e : q = 2 ∨ q = 3 ∨ q = 4 ∨ q = 5 := by omega
    rcases e with rfl | rfl | rfl | rfl
    · have := plan_2 n 200000 k s (by simpa using hs) (by simp [cq] at s1; omega) s2 k0 k6 (by simp at s3; omega)
      simpa [ents, entq, rmq, cq] using this
    · have := plan_3 n 200000 k s (by simpa using hs) (by simp [cq] at s1; omega) s2 k0 k6 (by simp at s3; omega)
      simpa [ents, entq, rmq, cq] using this
    · have := plan_4 n 200000 k s (by simpa using hs) (by simp [cq] at s1; omega) s2 k0 k6 (by simp at s3; omega)
      simpa [ents, entq, rmq, cq] using this
    · have := plan_5 n 200000 k s (by simpa using hs) (by simp [cq] at s1; omega) s2 k0 k6 (by simp at s3; omega)
      simpa [ents, entq, rmq, cq] using this
  · have e : q - 1 = 0 := by omega
    have h3 : (q : Int) < 2 := by omega
    rw [e]
    rw [runF_s (h := rfl) (l := rfl)]
    simp [fd_plan_of, b_plan_of, h3, ents, le_lim]
theorem gaps_76 {q : Nat} {k s : Int} (p : Pq q k s) (room : Nat) (h1 : 1 ≤ room) (h2 : room < q) : runF prog consts 200000 (n + 3) 76 [.val (.int k), .val (.int q), .val (.int room)] =
    .ok (.tuple [.int (rmq q k s room).a, .tuple (.int (rmq q k s room).u0 :: (rmq q k s room).rest.map .int), match (rmq q k s room).tail with | [] => .none | t :: _ => .int t], .val) [.emp, .emp, .emp] := by
  obtain ⟨s1, s2, s3, s4⟩ := p.share (by omega)
  have hs := p.hs (by omega)
  have q6 := p.q6
  have k6 := p.k6
  have m1 : binOp .mul (.int 2) (.int q) = some (.int (2 * (q : Int))) := b_mulL _ _ (by decide)
  have dv : binOp .fdiv (.int k) (.int (2 * (q : Int) - 3)) = some (.int s) := by rw [b_div _ _ ⟨by omega, by omega⟩, hs]
  have sm : small s = true := small_of (by omega) (by omega)
  have m2 : ∀ x : Int, binOp .mul (.int x) (.int s) = some (.int (x * s)) := fun x => b_mulR _ _ sm
  have c7 := cs_70 n q (by omega) q6
  rw [runF_s (h := rfl) (l := rfl)]
  by_cases hr : room = 1
  · subst hr
    simp [fd_law_pt_gaps, b_law_pt_gaps, m1, dv, m2, putS, c7, rmq, le_lim]
  · have hr2 : ¬ (room : Int) = 1 := by omega
    simp [fd_law_pt_gaps, b_law_pt_gaps, m1, dv, m2, putS, c7, rmq, le_lim, hr, hr2]
theorem h39_is (q : Nat) (k s : Int) (room : Nat) : runF prog consts 200000 (n + 1) 39 [.val (entq q k s room)] = .ok (.tuple [.tuple [.int (rmq q k s room).a], .tuple (.int (rmq q k s room).u0 :: (rmq q k s room).rest.map .int), .tuple ((rmq q k s room).tail.map .int)], .val) [.emp] := by
  unfold entq
  by_cases hr : room = 1
  · subst hr
    simpa [rmq] using parts_mid n 200000 _ _
  · have := parts_side n 200000 (((room : Int) - 1) * s) (k - ((room : Int) - 2) * s)
    simpa [rmq, hr] using this
end
end TI

set_option Elab.async false
set_option autoImplicit false
set_option maxRecDepth 100000
set_option maxHeartbeats 1000000
set_option linter.all false
/-! W16: least sizes, by both. -/
namespace TI
open PySem
theorem rmq_P {q : Nat} {k s : Int} (p : Pq q k s) (room : Nat) (h1 : 1 ≤ room) (h2 : room < q) : 3 < (rmq q k s room).P ∧ (rmq q k s room).P ≤ 120 ∧ -10 ≤ (rmq q k s room).rim ∧ (rmq q k s room).rim ≤ 1000 := by
  obtain ⟨s1, s2, s3, s4⟩ := p.share (by omega)
  have q6 := p.q6
  have k6 := p.k6
  have e : q = 2 ∨ q = 3 ∨ q = 4 ∨ q = 5 := by omega
  have f : room = 1 ∨ room = 2 ∨ room = 3 ∨ room = 4 := by omega
  rcases e with rfl | rfl | rfl | rfl <;> rcases f with rfl | rfl | rfl | rfl <;> first | (exfalso; omega) | (simp [cq] at s1 s3; simp [rmq, cq, Rm.P, Rm.rim] <;> omega)
theorem stepS_ge (c : Int) (r : Rm) (f : Int) : f ≤ stepS c r f := by
  unfold stepS; simp only []; split <;> omega
theorem stepS_ge2 (c : Int) (r : Rm) (f : Int) : 2 * c - 1 + r.rim + (if (r.P - 4 + 2) / 3 > 1 then (r.P - 4 + 2) / 3 else 1) * (r.P - 3) ≤ stepS c r f := by
  unfold stepS; simp only []; split <;> split <;> omega
theorem fold_ge (c : Int) : ∀ (rs : List Rm) (f : Int), f ≤ rs.foldl (fun f r => stepS c r f) f
  | [], f => Int.le_refl f
  | r :: rs, f => Int.le_trans (stepS_ge c r f) (fold_ge c rs _)
theorem fold_ge2 (c : Int) : ∀ (rs : List Rm) (f : Int) (r : Rm), r ∈ rs → 2 * c - 1 + r.rim + (if (r.P - 4 + 2) / 3 > 1 then (r.P - 4 + 2) / 3 else 1) * (r.P - 3) ≤ rs.foldl (fun f r => stepS c r f) f
  | [], f, r, h => by cases h
  | x :: rs, f, r, h => by
    rcases List.mem_cons.mp h with rfl | h
    · exact Int.le_trans (stepS_ge2 c r f) (fold_ge c rs _)
    · exact fold_ge2 c rs _ r h
theorem mem_rms (q : Nat) (k s : Int) : ∀ (m i j : Nat), i ≤ j → j < i + m → rmq q k s j ∈ rms q k s i m
  | 0, i, j, h1, h2 => by omega
  | m + 1, i, j, h1, h2 => by
    rw [rms]
    by_cases e : j = i
    · subst e; exact List.mem_cons_self
    · exact List.mem_cons_of_mem _ (mem_rms q k s m (i + 1) j (by omega) (by omega))
def okPut : Option Slot → Bool
  | some (.io _) => false
  | _ => true
theorem okPut_fr {s : Slot} (h : fr s) : okPut (some s) = true := by
  rcases h with rfl | ⟨d, rfl⟩ <;> rfl
@[simp] theorem okPut_emp : okPut (some .emp) = true := rfl
@[simp] theorem okPut_val (d : D) : okPut (some (.val d)) = true := rfl
@[simp] theorem okPut_valx (d : D) : okPut (some (.valx d)) = true := rfl
@[simp] theorem okPut_own (d : List D) : okPut (some (.own d)) = true := rfl
theorem putS_b (e : En) (i : Nat) (s : Slot) : putS e i s = if i < e.length then (if okPut e[i]? = true then some (e.set i s) else none) else none := by
  unfold putS
  split
  · cases h : e[i]? with
    | none => rfl
    | some x => cases x <;> rfl
  · rfl
theorem bt_b (i : Nat) (d : D) (e : En) : bindT (.var i) d e = if i < e.length then (if okPut e[i]? = true then some (e.set i (.val d)) else none) else none := by
  rw [bt_var]
  split
  · cases h : e[i]? with
    | none => rfl
    | some x => cases x <;> rfl
  · rfl
section
variable (n : Nat)
theorem short_loop {q : Nat} {k s : Int} (p : Pq q k s) : ∀ (m i : Nat) (f : Int) (s3 s4 s5 s6 s7 s8 : Slot), 1 ≤ i → i + m = q → fr s3 → fr s4 → fr s5 → fr s6 → fr s7 → fr s8 →
    ∃ s3' s4' s5' s6' s7' s8', forL (forF (runF prog consts 200000 (n + 1)) consts 200000 (.var 3) (.cons (.unpack (.tup (.cons (.var 4) (.cons (.var 5) (.cons (.var 6) .nil)))) (.call 39 (.cons (.var 3) .nil))) (.cons (.set 7 (.bi .sum (.cons (.var 5) .nil))) (.cons (.set 8 (.bi .max2 (.cons (.lit (.int 1)) (.cons (.bin .fdiv (.bin .add (.bin .sub (.var 7) (.lit (.int 4))) (.lit (.int 2))) (.lit (.int 3))) .nil)))) (.cons (.set 2 (.bi .max2 (.cons (.var 2) (.cons (.bin .add (.bin .add (.bin .sub (.bin .mul (.lit (.int 2)) (.call 32 (.cons (.var 1) .nil))) (.lit (.int 1))) (.bi .sum (.cons (.bin .add (.var 4) (.var 6)) .nil))) (.bin .mul (.var 8) (.bin .sub (.var 7) (.glob 11)))) .nil)))) .nil))))) (ents q k s i m)
      [.val (.int k), .val (.int q), .val (.int f), s3, s4, s5, s6, s7, s8] = .next [.val (.int k), .val (.int q), .val (.int ((rms q k s i m).foldl (fun f r => stepS (cq q) r f) f)), s3', s4', s5', s6', s7', s8']
  | 0, i, f, s3, s4, s5, s6, s7, s8, _, _, _, _, _, _, _, _ => ⟨s3, s4, s5, s6, s7, s8, rfl⟩
  | m + 1, i, f, s3, s4, s5, s6, s7, s8, i1, im, h3, h4, h5, h6, h7, h8 => by
    have ok := rmq_ok p i i1 (by omega)
    obtain ⟨P1, P2, R1, R2⟩ := rmq_P p i i1 (by omega)
    have h39 := h39_is n q k s i
    have c3 := cs_32 n q (by omega) p.q6
    have su := sum_T1 (rmq q k s i).u0 (rmq q k s i).rest
    have sr := sum_T1 (rmq q k s i).a (rmq q k s i).tail
    have tl := ok.tl
    have a1 : binOp .add (.tuple [.int (rmq q k s i).a]) (.tuple ((rmq q k s i).tail.map .int)) = some (.tuple (.int (rmq q k s i).a :: (rmq q k s i).tail.map .int)) := b_addT _ _ (le_lim (by simp; omega))
    rw [rms, ents, List.foldl_cons]
    generalize entq q k s i = ent at *
    generalize rmq q k s i = r at *
    rw [show r.u0 + r.rest.sum = r.P from rfl] at su
    rw [show r.a + r.tail.sum = r.rim from rfl] at sr
    obtain ⟨a3, a4, a5, a6, a7, a8, ih⟩ := short_loop p m (i + 1) (stepS (cq q) r f) (.val ent) (.val (.tuple [.int r.a])) (.val (.tuple (.int r.u0 :: r.rest.map .int))) (.val (.tuple (r.tail.map .int))) (.val (.int r.P)) (.val (.int (if (r.P - 4 + 2) / 3 > 1 then (r.P - 4 + 2) / 3 else 1))) (by omega) (by omega) (.inr ⟨_, rfl⟩) (.inr ⟨_, rfl⟩) (.inr ⟨_, rfl⟩) (.inr ⟨_, rfl⟩) (.inr ⟨_, rfl⟩) (.inr ⟨_, rfl⟩)
    refine ⟨a3, a4, a5, a6, a7, a8, ?_⟩
    rw [← ih, forL]
    have dv : binOp .fdiv (.int (r.P - 4 + 2)) (.int 3) = some (.int ((r.P - 4 + 2) / 3)) := b_div _ _ (by decide)
    have m2 : binOp .mul (.int 2) (.int (cq q : Nat)) = some (.int (2 * (cq q : Nat))) := b_mulL _ _ (by decide)
    have m3 : binOp .mul (.int (if (r.P - 4 + 2) / 3 > 1 then (r.P - 4 + 2) / 3 else 1)) (.int (r.P - 3)) = some (.int ((if (r.P - 4 + 2) / 3 > 1 then (r.P - 4 + 2) / 3 else 1) * (r.P - 3))) := b_mulR _ _ (small_of (by omega) (by omega))
    have hU : biOp .max2 [.int 1, .int ((r.P - 4 + 2) / 3)] = some (.int (if (r.P - 4 + 2) / 3 > 1 then (r.P - 4 + 2) / 3 else 1), .val) := rfl
    have hM : biOp .max2 [.int f, .int (2 * (cq q : Nat) - 1 + r.rim + (if (r.P - 4 + 2) / 3 > 1 then (r.P - 4 + 2) / 3 else 1) * (r.P - 3))] = some (.int (stepS (cq q) r f), .val) := rfl
    generalize stepS (cq q) r f = F at *
    generalize (if (r.P - 4 + 2) / 3 > 1 then (r.P - 4 + 2) / 3 else 1) = U at *
    simp [-bt_var, -max_2, hU, hM, bt_b, putS_b, okPut_fr h3, okPut_fr h4, okPut_fr h5, okPut_fr h6, okPut_fr h7, okPut_fr h8, forF, h39, su, sr, a1, dv, m2, m3, c3, pure]
theorem pt_short_loop {q : Nat} {k s : Int} (p : Pq q k s) : ∀ (m i : Nat) (f : Int) (s3 s4 s5 s6 s7 s8 s9 s10 : Slot), 1 ≤ i → i + m = q → fr s4 → fr s5 → fr s6 → fr s7 → fr s8 → fr s9 → fr s10 →
    ∃ s4' s5' s6' s7' s8' s9' s10', forL (forF (runF prog consts 200000 (n + 3)) consts 200000 (.var 4) (.cons (.unpack (.tup (.cons (.var 5) (.cons (.var 6) (.cons (.var 7) .nil)))) (.call 76 (.cons (.var 0) (.cons (.var 1) (.cons (.var 4) .nil))))) (.cons (.set 8 (.bi .sum (.cons (.var 6) .nil))) (.cons (.set 9 (.bi .max2 (.cons (.lit (.int 1)) (.cons (.bi .int1 (.cons (.neg (.bin .fdiv (.neg (.bin .sub (.var 8) (.lit (.int 4)))) (.lit (.int 3)))) .nil)) .nil)))) (.cons (.set 10 (.bin .add (.var 5) (.ite (.cmp .isnot (.var 7) (.lit .none)) (.var 7) (.lit (.int 0))))) (.cons (.set 2 (.bi .max2 (.cons (.bi .int1 (.cons (.var 2) .nil)) (.cons (.bi .int1 (.cons (.bin .add (.bin .add (.bin .sub (.bin .mul (.lit (.int 2)) (.var 3)) (.lit (.int 1))) (.var 10)) (.bin .mul (.var 9) (.bin .sub (.var 8) (.lit (.int 3))))) .nil)) .nil)))) .nil)))))) (rangeL i m)
      [.val (.int k), .val (.int q), .val (.int f), .val (.int (cq q : Nat)), s4, s5, s6, s7, s8, s9, s10] = .next [.val (.int k), .val (.int q), .val (.int ((rms q k s i m).foldl (fun f r => stepS (cq q) r f) f)), .val (.int (cq q : Nat)), s4', s5', s6', s7', s8', s9', s10']
  | 0, i, f, s3, s4, s5, s6, s7, s8, s9, s10, _, _, _, _, _, _, _, _, _ => ⟨s4, s5, s6, s7, s8, s9, s10, rfl⟩
  | m + 1, i, f, s3, s4, s5, s6, s7, s8, s9, s10, i1, im, h4, h5, h6, h7, h8, h9, h10 => by
    have ok := rmq_ok p i i1 (by omega)
    obtain ⟨P1, P2, R1, R2⟩ := rmq_P p i i1 (by omega)
    have h76 := gaps_76 n p i i1 (by omega)
    have su := sum_T1 (rmq q k s i).u0 (rmq q k s i).rest
    have tl := ok.tl
    rw [rms, rangeL, List.foldl_cons]
    generalize rmq q k s i = r at *
    rw [show r.u0 + r.rest.sum = r.P from rfl] at su
    have e1 : ((i + 1 : Nat) : Int) = (i : Int) + 1 := by omega
    have ih := fun rg => pt_short_loop p m (i + 1) (stepS (cq q) r f) s3 (.val (.int i)) (.val (.int r.a)) (.val (.tuple (.int r.u0 :: r.rest.map .int))) (.val rg) (.val (.int r.P)) (.val (.int (if (r.P - 4 + 2) / 3 > 1 then (r.P - 4 + 2) / 3 else 1))) (.val (.int r.rim)) (by omega) (by omega) (.inr ⟨_, rfl⟩) (.inr ⟨_, rfl⟩) (.inr ⟨_, rfl⟩) (.inr ⟨_, rfl⟩) (.inr ⟨_, rfl⟩) (.inr ⟨_, rfl⟩) (.inr ⟨_, rfl⟩)
    rw [e1] at ih
    have dv : binOp .fdiv (.int (-(r.P - 4))) (.int 3) = some (.int (-(r.P - 4) / 3)) := b_div _ _ (by decide)
    have m2 : binOp .mul (.int 2) (.int (cq q : Nat)) = some (.int (2 * (cq q : Nat))) := b_mulL _ _ (by decide)
    have m3 : binOp .mul (.int (if (r.P - 4 + 2) / 3 > 1 then (r.P - 4 + 2) / 3 else 1)) (.int (r.P - 3)) = some (.int ((if (r.P - 4 + 2) / 3 > 1 then (r.P - 4 + 2) / 3 else 1) * (r.P - 3))) := b_mulR _ _ (small_of (by omega) (by omega))
    have hU : biOp .max2 [.int 1, .int (-(-(r.P - 4) / 3))] = some (.int (if (r.P - 4 + 2) / 3 > 1 then (r.P - 4 + 2) / 3 else 1), .val) := by
      rw [show (-(-(r.P - 4) / 3)) = (r.P - 4 + 2) / 3 by omega]; rfl
    have hM : biOp .max2 [.int f, .int (2 * (cq q : Nat) - 1 + r.rim + (if (r.P - 4 + 2) / 3 > 1 then (r.P - 4 + 2) / 3 else 1) * (r.P - 3))] = some (.int (stepS (cq q) r f), .val) := rfl
    generalize stepS (cq q) r f = F at *
    generalize (if (r.P - 4 + 2) / 3 > 1 then (r.P - 4 + 2) / 3 else 1) = U at *
    rcases ht : r.tail with _ | ⟨t, _ | ⟨t2, tr⟩⟩
    · obtain ⟨b4, b5, b6, b7, b8, b9, b10, ih⟩ := ih .none
      refine ⟨b4, b5, b6, b7, b8, b9, b10, ?_⟩
      have rm : r.rim = r.a := by unfold Rm.rim; rw [ht]; simp
      rw [ht] at h76
      rw [← ih, forL]
      rw [rm] at hM ⊢
      simp [-bt_var, -max_2, hU, hM, bt_b, putS_b, okPut_fr h4, okPut_fr h5, okPut_fr h6, okPut_fr h7, okPut_fr h8, okPut_fr h9, okPut_fr h10, forF, h76, su, dv, m2, m3, pure]
    · obtain ⟨b4, b5, b6, b7, b8, b9, b10, ih⟩ := ih (.int t)
      refine ⟨b4, b5, b6, b7, b8, b9, b10, ?_⟩
      have rm : r.rim = r.a + t := by unfold Rm.rim; rw [ht]; simp
      rw [ht] at h76
      rw [← ih, forL]
      rw [rm] at hM ⊢
      simp [-bt_var, -max_2, hU, hM, bt_b, putS_b, okPut_fr h4, okPut_fr h5, okPut_fr h6, okPut_fr h7, okPut_fr h8, okPut_fr h9, okPut_fr h10, forF, h76, su, dv, m2, m3, pure]
    · rw [ht] at tl; simp at tl
end
end TI

set_option Elab.async false
set_option autoImplicit false
set_option maxRecDepth 100000
set_option maxHeartbeats 1000000
set_option linter.all false
/-! W17: least sizes, checks. -/
namespace TI
open PySem
/-- the least k -/
def lo (q l : Nat) : Int := if l = 0 then sf q else if (2 * (uz l : Int)) > (if (12 : Int) > sf q then 12 else sf q) then 2 * (uz l : Int) else (if (12 : Int) > sf q then 12 else sf q)
/-- the least size -/
def lst (q l : Nat) (k s : Int) : Int := if l = 0 then shq q k s else if (uz l : Int) * (uz l + 1) > shq q k s then (uz l : Int) * (uz l + 1) else shq q k s
theorem uz_le (l : Nat) : 5 ≤ uz l ∧ uz l ≤ 11 := by unfold uz dlo; refine ⟨?_, ?_⟩ <;> (repeat' split) <;> omega
theorem shq_ge (q : Nat) (k s : Int) : 3 * k ≤ shq q k s := fold_ge _ _ _
theorem lst_ge (q l : Nat) (k s : Int) : shq q k s ≤ lst q l k s := by unfold lst; split <;> (try split) <;> omega
section
variable (n : Nat)
theorem sh40 {q : Nat} {k s : Int} (p : Pq q k s) : runF prog consts 200000 (n + 8) 40 [.val (.int k), .val (.int q)] = .ok (.int (shq q k s), .val) [.emp, .emp] := by
  have h36 := plan_is n p
  have m2 : binOp .mul (.int 3) (.int k) = some (.int (3 * k)) := b_mulL _ _ (by decide)
  have el : ∀ m i, (ents q k s i m).length = m := by
    intro m
    induction m with
    | zero => intro i; rfl
    | succ m ih => intro i; simp [ents, ih]
  have q6 := p.q6
  have e2 : q - 1 ≤ 100000 := by omega
  rw [runF_s (h := rfl) (l := rfl)]
  by_cases h : 1 ≤ q
  · obtain ⟨a3, a4, a5, a6, a7, a8, hl⟩ := short_loop (n + 6) p (q - 1) 1 (3 * k) .emp .emp .emp .emp .emp .emp (by omega) (by omega) (.inl rfl) (.inl rfl) (.inl rfl) (.inl rfl) (.inl rfl) (.inl rfl)
    simp [fd_shortest_of, b_shortest_of, h36, m2, putS, hl, el, e2, le_lim, shq]
  · have e : q - 1 = 0 := by omega
    rw [e] at h36
    simp [fd_shortest_of, b_shortest_of, h36, m2, putS, le_lim, shq, e, ents, rms, forL]
theorem sh77 {q : Nat} {k s : Int} (p : Pq q k s) : runF prog consts 200000 (n + 4) 77 [.val (.int k), .val (.int q)] = .ok (.int (shq q k s), .val) [.emp, .emp] := by
  have m2 : binOp .mul (.int 3) (.int k) = some (.int (3 * k)) := b_mulL _ _ (by decide)
  have q6 := p.q6
  have c7 := cs_70 (n + 1) q (by omega) q6
  have i1 : inR (q : Int) = true := inR_of (by omega) (by omega)
  have i2 : inR 1 = true := by decide
  have e2 : q - 1 ≤ 100000 := by omega
  rw [runF_s (h := rfl) (l := rfl)]
  by_cases h : 1 ≤ q
  · obtain ⟨a4, a5, a6, a7, a8, a9, a10, hl⟩ := pt_short_loop n p (q - 1) 1 (3 * k) .emp .emp .emp .emp .emp .emp .emp .emp (by omega) (by omega) (.inl rfl) (.inl rfl) (.inl rfl) (.inl rfl) (.inl rfl) (.inl rfl) (.inl rfl)
    have e : ((q : Int) - 1).toNat = q - 1 := by omega
    simp [fd_law_pt_shortest, b_law_pt_shortest, c7, m2, putS, i1, i2, e, rangeL_length, e2, le_lim, show ((1 : Nat) : Int) = 1 from rfl] at hl ⊢
    simp [hl, shq]
  · have e : q - 1 = 0 := by omega
    have e3 : ((q : Int) - 1).toNat = 0 := by omega
    simp [fd_law_pt_shortest, b_law_pt_shortest, c7, m2, putS, i1, i2, e3, rangeL, le_lim, shq, e, rms, forL]
theorem mulu (l : Nat) : binOp .mul (.int (uz l : Nat)) (.int ((uz l : Nat) + 1)) = some (.int ((uz l : Int) * ((uz l : Int) + 1))) := b_mulR _ _ (small_of (by omega) (by have := uz_le l; omega))
theorem ll47 (l : Nat) (h1 : 1 ≤ l) (h : l < 8) : runF prog consts 200000 (n + 3) 47 [.val (.int l)] = .ok (.int ((uz l : Int) * ((uz l : Int) + 1)), .val) [.emp] := by
  rw [runF_s (h := rfl) (l := rfl)]
  simp [fd_least_loud, b_least_loud, usz_46 n l h1 h, mulu]
theorem ts54 {q : Nat} {k s : Int} (p : Pq q k s) (l : Nat) (h : l < 8) : runF prog consts 200000 (n + 9) 54 [.val (.int k), .val (.int q), .val (.int l)] = .ok (.int (lst q l k s), .val) [.emp, .emp, .emp] := by
  have h40 := sh40 n p
  rw [runF_s (h := rfl) (l := rfl)]
  by_cases h0 : l = 0
  · subst h0
    simp [fd_told_shortest_of, b_told_shortest_of, h40, putS, lst]
  · have h2 : ¬ (l : Int) = 0 := by omega
    have h47 := ll47 (n + 5) l (by omega) h
    have mx : biOp .max2 [.int (shq q k s), .int ((uz l : Int) * ((uz l : Int) + 1))] = some (.int (lst q l k s), .val) := by
      unfold lst; rw [if_neg h0]; rfl
    simp [-max_2, fd_told_shortest_of, b_told_shortest_of, h40, putS, h0, h2, h47, mx]
theorem ts78 {q : Nat} {k s : Int} (p : Pq q k s) (l : Nat) (h : l < 8) : runF prog consts 200000 (n + 5) 78 [.val (.int k), .val (.int q), .val (.int l)] = .ok (.int (lst q l k s), .val) [.emp, .emp, .emp] := by
  have h77 := sh77 n p
  rw [runF_s (h := rfl) (l := rfl)]
  by_cases h0 : l = 0
  · subst h0
    have mx : biOp .max2 [.int (shq q k s), .int 0] = some (.int (shq q k s), .val) := by
      have := shq_ge q k s
      have := p.k0
      rw [max_2, if_neg (by omega)]
    have m0 : binOp .mul (.int 0) (.int 1) = some (.int 0) := rfl
    simp [-max_2, fd_law_pt_told_shortest, b_law_pt_told_shortest, h77, putS, lst, m0, mx]
  · have h2 : 0 < (l : Int) := by omega
    have h3 : 0 < l := by omega
    have h73 := usz_73 (n + 2) l (by omega) h
    have mx : biOp .max2 [.int (shq q k s), .int ((uz l : Int) * ((uz l : Int) + 1))] = some (.int (lst q l k s), .val) := by
      unfold lst; rw [if_neg h0]; rfl
    simp [-max_2, fd_law_pt_told_shortest, b_law_pt_told_shortest, h77, putS, h0, h2, h3, h73, mulu, mx]
theorem from53 (q l : Nat) (hq : q < 6) (h : l < 8) : runF prog consts 200000 (n + 3) 53 [.val (.int q), .val (.int l)] = .ok (.int (lo q l), .val) [.emp, .emp] := by
  have h33 := sf_33 n q (by omega) hq
  rw [runF_s (h := rfl) (l := rfl)]
  by_cases h0 : l = 0
  · subst h0
    simp [fd_told_from_of, b_told_from_of, h33, lo]
  · have h2 : ¬ (l : Int) = 0 := by omega
    have h46 := usz_46 n l (by omega) h
    have m2 : binOp .mul (.int 2) (.int (uz l : Nat)) = some (.int (2 * (uz l : Int))) := b_mulL _ _ (by decide)
    have mx : biOp .max3 [.int (sf q), .int 12, .int (2 * (uz l : Int))] = some (.int (lo q l), .val) := by
      unfold lo; rw [if_neg h0]; rfl
    simp [fd_told_from_of, b_told_from_of, h33, h46, m2, h0, h2, mx]
theorem from75 (q l : Nat) (hq : q < 6) (h : l < 8) : runF prog consts 200000 (n + 4) 75 [.val (.int q), .val (.int l)] = .ok (.int (lo q l), .val) [.emp, .emp] := by
  have h72 := sf_72 n q (by omega) hq
  rw [runF_s (h := rfl) (l := rfl)]
  by_cases h0 : l = 0
  · subst h0
    simp [fd_law_pt_from, b_law_pt_from, h72, lo]
  · have h2 : ¬ (l : Int) = 0 := by omega
    have h73 := usz_73 (n + 1) l (by omega) h
    have m2 : binOp .mul (.int 2) (.int (uz l : Nat)) = some (.int (2 * (uz l : Int))) := b_mulL _ _ (by decide)
    have mx : biOp .max3 [.int (sf q), .int 12, .int (2 * (uz l : Int))] = some (.int (lo q l), .val) := by
      unfold lo; rw [if_neg h0]; rfl
    simp [fd_law_pt_from, b_law_pt_from, h72, h73, m2, h0, h2, mx]
theorem thin55 (q l : Nat) (hq : q < 6) (h : l < 8) (k : Int) (hk : lo q l ≤ k) : runF prog consts 200000 (n + 4) 55 [.val (.int k), .val (.int q), .val (.int l)] = .ok (.none, .val) [.emp, .emp, .emp] := by
  have h53 := from53 n q l hq h
  have h2 : ¬ k < lo q l := by omega
  rw [runF_s (h := rfl) (l := rfl)]
  simp [fd_check_told_thin, b_check_told_thin, h53, putS, h2]
theorem plan35 {q : Nat} {k s : Int} (p : Pq q k s) : runF prog consts 200000 (n + 4) 35 [.val (.int k), .val (.int q)] = .ok (.none, .val) [.emp, .emp] := by
  have h33 := sf_33 n q (by omega) p.q6
  have h2 : ¬ k < sf q := by have := p.hk; omega
  have h34 : runF prog consts 200000 (n + 3) 34 [.val (.int k), .val (.int q)] = .ok (.none, .val) [.emp, .emp] := by
    rw [runF_s (h := rfl) (l := rfl)]
    simp [fd_check_thin, b_check_thin, h33, h2]
  have q6 := p.q6
  rw [runF_s (h := rfl) (l := rfl)]
  simp [fd_check_plan, b_check_plan, k_ok n 200000 k p.k0 p.k6, many_ok n 200000 q 0 5 (by omega) (by omega), h34]
theorem size43 {q : Nat} {k s : Int} (p : Pq q k s) (size : Nat) (h1 : shq q k s ≤ size) (h2 : size ≤ 5000) : runF prog consts 200000 (n + 9) 43 [.val (.int k), .val (.int q), .val (.int size)] = .ok (.none, .val) [.emp, .emp, .emp] := by
  have h40 := sh40 n p
  have h3 : (size : Int) ≤ 5000 := by omega
  rw [runF_s (h := rfl) (l := rfl)]
  simp [fd_check_size, b_check_size, h40, putS, btw_i, h1, h3]
end
end TI

set_option Elab.async false
set_option autoImplicit false
set_option maxRecDepth 100000
set_option maxHeartbeats 1000000
set_option linter.all false
/-! W18: quiet stretches of right sizes. -/
namespace TI
open PySem
theorem lay_ints : ∀ gs : List Nat, ∃ zs : List Int, lay gs = zs.map .int
  | [] => ⟨[], rfl⟩
  | g :: r => by
    obtain ⟨zs, e⟩ := lay_ints r
    exact ⟨List.replicate (g - 1) 0 ++ [1] ++ zs, by simp [lay, e]⟩
theorem digc_ints : ∀ (k r : Nat), ∃ zs : List Int, digc r k = zs.map .int ∧ zs.length = k
  | 0, r => ⟨[], rfl, rfl⟩
  | k + 1, r => by
    obtain ⟨zs, e, h⟩ := digc_ints k (r / 2)
    exact ⟨((r % 2 : Nat) : Int) :: zs, by simp [digc, e], by simp [h]⟩
theorem code_ints (q room : Nat) (h : 2 ≤ q) : ∃ zs : List Int, codeL q room = .int 1 :: zs.map .int ∧ zs.length + 1 = cq q := by
  obtain ⟨zs, e, hl⟩ := digc_ints (cq q - 1) (room - 1)
  refine ⟨zs, by rw [codeL, e], ?_⟩
  rw [hl]
  unfold cq
  split
  · omega
  · split
    · rfl
    · split <;> rfl
theorem ents_at (q : Nat) (k s : Int) : ∀ (m i j : Nat), j < m → (ents q k s i m)[j]? = some (entq q k s (i + j))
  | 0, i, j, h => by omega
  | m + 1, i, 0, h => by rw [ents]; rfl
  | m + 1, i, j + 1, h => by
    rw [ents, List.getElem?_cons_succ, ents_at q k s m (i + 1) j (by omega), show i + 1 + j = i + (j + 1) by omega]
theorem ents_len (q : Nat) (k s : Int) : ∀ m i, (ents q k s i m).length = m
  | 0, i => rfl
  | m + 1, i => by simp [ents, ents_len q k s m (i + 1)]
section
variable (n : Nat)
theorem quiet0 (k q : Int) (size : Nat) (h : size ≤ 5000) : runF prog consts 200000 (n + 1) 42 [.val (.int k), .val (.int q), .val (.int 0), .val (.int size)] = .ok (.tuple ((List.replicate size 0).map .int), .xt) [.emp, .emp, .emp, .emp] ∧
    runF prog consts 200000 (n + 1) 79 [.val (.int k), .val (.int q), .val (.int 0), .val (.int size)] = .ok (.tuple ((List.replicate size 0).map .int), .xt) [.emp, .emp, .emp, .emp] := by
  have i1 : inR (size : Int) = true := inR_of (by omega) (by omega)
  have l1 : size ≤ lim := le_lim (by omega)
  refine ⟨?_, ?_⟩ <;> rw [runF_s (h := rfl) (l := rfl)] <;> simp [fd_stretch_of, b_stretch_of, fd_law_pt_quiet_stretch, b_law_pt_quiet_stretch, i1, l1, le_lim, flat_rep1]
end
theorem quiet_both {q : Nat} {k s : Int} (p : Pq q k s) (room : Nat) (hr : room < q) (size : Nat) (h1 : shq q k s ≤ size) (h2 : size ≤ 5000) :
    ∃ (zs : List Int) (fl : Fl), zs.length = size ∧ (fl = .val ∨ fl = .xt) ∧ (room = 0 → zs = List.replicate size 0) ∧
    (∀ n, runF prog consts 200000 (n + 8) 42 [.val (.int k), .val (.int q), .val (.int room), .val (.int size)] = .ok (.tuple (zs.map .int), fl) [.emp, .emp, .emp, .emp]) ∧
    (∀ n, runF prog consts 200000 (n + 8) 79 [.val (.int k), .val (.int q), .val (.int room), .val (.int size)] = .ok (.tuple (zs.map .int), fl) [.emp, .emp, .emp, .emp]) := by
  by_cases h0 : room = 0
  · subst h0
    exact ⟨List.replicate size 0, .xt, by simp, .inr rfl, fun _ => rfl, fun n => (quiet0 (n + 7) k q size h2).1, fun n => (quiet0 (n + 7) k q size h2).2⟩
  · have r1 : 1 ≤ room := by omega
    have q2 : 2 ≤ q := by omega
    obtain ⟨c0, ce, cl⟩ := code_ints q room q2
    have cc : cq q ≤ 3 := by unfold cq; (repeat' split) <;> omega
    have len : (codeL q room).length = cq q := by rw [ce]; simp; omega
    have R : ∀ n, Rt (n + 7) 200000 k q room (rmq q k s room) (codeL q room) (ents q k s 1 (q - 1)) (entq q k s room) := fun n => {
      ok := rmq_ok p room r1 hr
      cd := by rw [ce]; rfl
      cl := by omega
      rm := by omega
      h36 := plan_is n p
      it := by
        rw [itemAt_int _ _ (by omega) (by rw [ents_len]; omega), show ((room : Int) - 1).toNat = room - 1 by omega, ents_at _ _ _ _ _ _ (by omega), show 1 + (room - 1) = room by omega]
      h38 := code_38 (n + 5) q room p.q6 r1 hr
      h39 := fun m => h39_is m q k s room
      h71 := code_71 (n + 4) q room p.q6 r1 hr
      h76 := gaps_76 (n + 4) p room r1 hr }
    have ok := (R 0).ok
    obtain ⟨P1, P2, R1, R2⟩ := rmq_P p room r1 hr
    have big := fold_ge2 (cq q) (rms q k s 1 (q - 1)) (3 * k) (rmq q k s room) (mem_rms q k s (q - 1) 1 room r1 (by omega))
    rw [show (rms q k s 1 (q - 1)).foldl (fun f r => stepS (cq q) r f) (3 * k) = shq q k s from rfl] at big
    obtain ⟨M, f⟩ := fill_ex (rmq q k s room).P (size - 2 * (codeL q room).length + 1 - (rmq q k s room).rim) (by omega)
    rw [len] at f
    have fm := f.le (by omega)
    have ft := f.fits (U := if ((rmq q k s room).P - 4 + 2) / 3 > 1 then ((rmq q k s room).P - 4 + 2) / 3 else 1) (by omega) (by omega) (by omega) (by omega)
    obtain ⟨gs, eg, gp, sg, gn⟩ := (rmq q k s room).all_nats ok _ M f ft
    rw [← len] at f eg sg
    have a := fun n => quiet_of (n + 5) 200000 k q room _ _ _ _ (R n) size M gs h2 f fm eg gp sg gn
    have b := fun n => pt_quiet_of (n + 5) 200000 k q room _ _ _ _ (R n) size M gs h2 f fm (by omega) eg gp sg gn
    obtain ⟨ls, le⟩ := lay_ints gs
    have qe : quietL (codeL q room) gs = ((1 :: c0).reverse ++ ls ++ c0).map .int := by
      unfold quietL
      rw [ce, le]
      simp
    have ql : ((1 :: c0).reverse ++ ls ++ c0).length = size := by
      have l2 := lay_len gs gp
      rw [le, List.length_map] at l2
      rw [len] at sg
      simp
      omega
    simp only [qe] at a b
    exact ⟨_, .val, ql, .inl rfl, fun h => absurd h h0, a, b⟩
end TI

set_option Elab.async false
set_option autoImplicit false
set_option maxRecDepth 100000
set_option maxHeartbeats 1000000
set_option linter.all false
/-! W19: places of rooms, loud rooms. -/
namespace TI
open PySem
def rng (n : Nat) : List Int := (List.range n).map fun i => ((i : Nat) : Int)
theorem rangeL_eq : ∀ (m : Nat) (lo : Int), rangeL lo m = (List.range m).map fun i => PyData.int (lo + (i : Nat))
  | 0, lo => rfl
  | m + 1, lo => by
    rw [rangeL, rangeL_eq m (lo + 1), List.range_succ_eq_map, List.map_cons, List.map_map]
    simp [Function.comp_def]
    intro a _
    omega
theorem rangeL_rng (m : Nat) : rangeL 0 m = (rng m).map .int := by
  rw [rangeL_eq, rng, List.map_map]
  simp [Function.comp_def]
theorem mem_rng {n : Nat} {x : Int} : x ∈ rng n ↔ 0 ≤ x ∧ x < n := by
  unfold rng
  simp only [List.mem_map, List.mem_range]
  constructor
  · rintro ⟨i, h, rfl⟩; omega
  · rintro ⟨h1, h2⟩; exact ⟨x.toNat, by omega, by omega⟩
theorem nodup_rng (n : Nat) : (rng n).Nodup := by
  unfold rng
  rw [List.Nodup, List.pairwise_map]
  exact List.Pairwise.imp (fun h e => h (by omega)) (List.nodup_range (n := n))
theorem len_rng (n : Nat) : (rng n).length = n := by simp [rng]
/-- places of quiet rooms -/
structure Pls (P : List Int) (n q : Nat) : Prop where
  len : P.length = q
  lt : P.Pairwise (· < ·)
  bd : ∀ x ∈ P, 0 ≤ x ∧ x < n
def loudR (n : Nat) (P : List Int) : List Int := (rng n).filter fun x => !P.contains x
theorem Pls.nodup {P : List Int} {n q : Nat} (h : Pls P n q) : P.Nodup := List.Pairwise.imp (fun h => by omega) h.lt
theorem Pls.loud_len {P : List Int} {n q : Nat} (h : Pls P n q) : (loudR n P).length + q = n := by
  have e : ((rng n).filter fun x => P.contains x).Perm P := by
    refine (List.perm_ext_iff_of_nodup ((nodup_rng n).filter _) h.nodup).mpr fun x => ?_
    simp only [List.mem_filter, mem_rng, List.contains_iff_mem]
    exact ⟨fun z => z.2, fun z => ⟨h.bd x z, z⟩⟩
  have l1 := e.length_eq
  have l2 : ∀ xs : List Int, (xs.filter fun x => P.contains x).length + (xs.filter fun x => !P.contains x).length = xs.length := by
    intro xs
    induction xs with
    | nil => rfl
    | cons a r ih =>
      rw [List.filter_cons, List.filter_cons]
      cases P.contains a <;> simp only [Bool.not_true, Bool.not_false, if_true, if_false, List.length_cons, Bool.false_eq_true] <;> omega
  have := l2 (rng n)
  rw [len_rng, l1, h.len] at this
  unfold loudR
  omega
theorem loud_nodup (n : Nat) (P : List Int) : (loudR n P).Nodup := (nodup_rng n).filter _
theorem mem_loud {n : Nat} {P : List Int} {x : Int} : x ∈ loudR n P ↔ (0 ≤ x ∧ x < n) ∧ x ∉ P := by
  unfold loudR
  simp [List.mem_filter, mem_rng]
theorem find_nodup : ∀ (P : List Int) (i : Nat) (h : i < P.length), P.Nodup → (P.map PyData.int).findIdx? (fun y => PyData.eqv y (.int P[i])) = some i
  | [], i, h, _ => by simp at h
  | a :: r, 0, h, _ => by simp [List.findIdx?_cons, eqv_i]
  | a :: r, i + 1, h, nd => by
    have h' : i < r.length := by simpa using h
    have ih := find_nodup r i h' (List.nodup_cons.mp nd).2
    have ne : ¬ a = r[i] := fun e => (List.nodup_cons.mp nd).1 (e ▸ List.getElem_mem h')
    rw [List.map_cons, List.findIdx?_cons, List.getElem_cons_succ, if_neg (by simpa [eqv_i] using ne), ih]
    rfl
theorem flat_ints (P : List Int) : (P.map PyData.int).all flat = true := by
  rw [List.all_eq_true]
  intro x hx
  obtain ⟨i, _, rfl⟩ := List.mem_map.mp hx
  rfl
theorem idx_T (P : List Int) (i : Nat) (h : i < P.length) (nd : P.Nodup) : mtOp .index (.tuple (P.map .int)) [.int P[i]] = some (.int (i : Nat)) := by
  rw [mt_idxT, if_pos (by rw [flat_ints]; rfl)]
  unfold findEq
  rw [find_nodup P i h nd]
  rfl
theorem idx_L (P : List Int) (i : Nat) (h : i < P.length) (nd : P.Nodup) : mtOp .index (.list (P.map .int)) [.int P[i]] = some (.int (i : Nat)) := by
  rw [mt_idxL, if_pos (by rw [flat_ints]; rfl)]
  unfold findEq
  rw [find_nodup P i h nd]
  rfl
theorem mem_i (x : Int) (P : List Int) : mem (.int x) (P.map .int) = P.contains x := by
  unfold mem
  induction P with
  | nil => rfl
  | cons a r ih =>
    rw [List.map_cons, List.any_cons, ih, List.contains_cons, eqv_i]
    congr 1
    rw [Bool.eq_iff_iff, decide_eq_true_iff, beq_iff_eq]
    exact ⟨fun h => h.symm, fun h => h.symm⟩
theorem in_T (x : Int) (P : List Int) : cmpOp .isin (.int x) (.tuple (P.map .int)) = some (P.contains x) := by
  show (if (flat (.int x) && (P.map PyData.int).all flat) = true then some (mem (.int x) (P.map .int)) else none) = _
  rw [if_pos (by rw [flat_ints]; rfl), mem_i]
theorem notin_T (x : Int) (P : List Int) : cmpOp .notin (.int x) (.tuple (P.map .int)) = some (!P.contains x) := by
  show (if (flat (.int x) && (P.map PyData.int).all flat) = true then some (!mem (.int x) (P.map .int)) else none) = _
  rw [if_pos (by rw [flat_ints]; rfl), mem_i]
/-- a chain of so many rooms; a scheme of it -/
def chainM (n : Nat) : D := .tuple [.int 1, .int n, .tuple (rangeL 0 n), .tuple (rangeL 0 n), .tuple ((List.range (n - 1)).map fun i => .tuple [.int (i : Nat), .int 0, .int ((i : Nat) + 1 : Int)])]
def schm (n : Nat) (P : List Int) : D := .tuple [chainM n, .tuple (P.map .int)]
end TI

set_option Elab.async false
set_option autoImplicit false
set_option maxRecDepth 100000
set_option maxHeartbeats 1000000
set_option linter.all false
/-! W20: chains are machines. -/
namespace TI
open PySem
section
variable (n : Nat)
theorem mach_ok (m : Nat) (h1 : 1 ≤ m) (h2 : m < 13) : runF prog consts 200000 (n + 7) 20 [.val (chainM m)] = .ok (.bool true, .val) [.emp] := by
  match m, h1, h2 with
  | 1, _, _ => kernel_rfl
  | 2, _, _ => kernel_rfl
  | 3, _, _ => kernel_rfl
  | 4, _, _ => kernel_rfl
  | 5, _, _ => kernel_rfl
  | 6, _, _ => kernel_rfl
  | 7, _, _ => kernel_rfl
  | 8, _, _ => kernel_rfl
  | 9, _, _ => kernel_rfl
  | 10, _, _ => kernel_rfl
  | 11, _, _ => kernel_rfl
  | 12, _, _ => kernel_rfl
  | 0, h, _ => exact absurd h (by omega)
  | z + 13, _, h => exact absurd h (by omega)
end
end TI

set_option Elab.async false
set_option autoImplicit false
set_option maxRecDepth 100000
set_option maxHeartbeats 1000000
set_option linter.all false
/-! W21: schemes. -/
namespace TI
open PySem
/-- a scheme, its machine's lots left open -/
def sch (m : Nat) (A B C : D) (P : List Int) : D := .tuple [.tuple [.int 1, .int m, A, B, C], .tuple (P.map .int)]
theorem all_true (k : Nat) : biOp .all1 [.list (List.replicate k (.bool true))] = some (.bool true, .val) := by
  show (bools (List.replicate k (.bool true))).map (fun bs => ((.bool (bs.all id) : D), Fl.val)) = _
  have : bools (List.replicate k (.bool true)) = some (List.replicate k true) := by
    induction k with
    | zero => rfl
    | succ k ih => rw [List.replicate_succ, bools, ih]; rfl
  rw [this]
  simp
theorem cut1 (xs : List D) : cut xs (some 1) none = xs.tail := by
  unfold cut cutAt
  cases xs with
  | nil => simp
  | cons x ct =>
    have := List.take_length (l := ct)
    simp [this]
section
variable (n : Nat)
theorem tup_y (xs : List D) (a b : Int) : runF prog consts 200000 (n + 1) 2 [.valy (.tuple xs), .val (.int a), .val (.int b)] = .ok (.bool (decide (a ≤ xs.length) && decide ((xs.length : Int) ≤ b)), .val) [.emp, .emp, .emp] := by
  rw [runF_s (h := rfl) (l := rfl)]
  cases h : decide (a ≤ xs.length) <;> simp [fd_is_tuple_of, b_is_tuple_of, isTy, h]
theorem rise_comp (s0 : Slot) : ∀ (a : Int) (P : List Int), (a :: P).Pairwise (· < ·) →
    compL (compF (runF prog consts 200000 n) consts (.tup (.cons (.var 1) (.cons (.var 2) .nil))) .nil (.cmp .lt (.var 1) (.var 2)) [1, 2]) (zipL ((a :: P).map .int) (P.map .int)) [s0, .emp, .emp] = .ok (List.replicate P.length (.bool true)) [s0, .emp, .emp]
  | a, [], _ => rfl
  | a, b :: P, h => by
    have ih := rise_comp s0 b P (List.pairwise_cons.mp h).2
    have lt := (List.pairwise_cons.mp h).1 b (by simp)
    simp only [List.map_cons] at ih ⊢
    rw [zipL, compL]
    simp [compF, tstE, wipeE, ih, lt, List.replicate_succ]
theorem rising_is (P : List Int) (h : P.Pairwise (· < ·)) (hl : P.length ≤ 1000) : runF prog consts 200000 (n + 1) 11 [.val (.tuple (P.map .int))] = .ok (.bool true, .val) [.emp] := by
  have hz : ∀ xs ys : List D, (zipL xs ys).length ≤ xs.length := by
    intro xs
    induction xs with
    | nil => intro ys; simp [zipL]
    | cons a r ih => intro ys; cases ys with
      | nil => simp [zipL]
      | cons b s => have := ih s; simp [zipL]; omega
  have l1 : (zipL (P.map PyData.int) (P.map PyData.int).tail).length ≤ lim := le_lim (by have := hz (P.map PyData.int) (P.map PyData.int).tail; simp at this ⊢; omega)
  rw [runF_s (h := rfl) (l := rfl)]
  cases P with
  | nil => simp [fd_is_rising, b_is_rising, cut1, optE, zipL, le_lim, noIo, wipeE, backE, compL, noExc, all_true 0, show biOp .all1 [.list []] = some (.bool true, .val) from rfl]
  | cons a P =>
    have rc := rise_comp n (.val (.tuple ((a :: P).map .int))) a P h
    simp only [List.map_cons, List.tail_cons] at rc l1
    simp [fd_is_rising, b_is_rising, cut1, optE, l1, noIo, wipeE, backE, noExc, rc, all_true]
theorem rooms_comp (s0 : Slot) (m : Int) : ∀ (P : List Int), (∀ x ∈ P, 0 ≤ x ∧ x ≤ m - 1) →
    compL (compF (runF prog consts 200000 (n + 2)) consts (.var 2) .nil (.call 1 (.cons (.var 2) (.cons (.lit (.int 0)) (.cons (.bin .sub (.var 1) (.lit (.int 1))) .nil)))) [2]) (P.map .int) [s0, .val (.int m), .emp] = .ok (List.replicate P.length (.bool true)) [s0, .val (.int m), .emp]
  | [], _ => rfl
  | a :: P, h => by
    have ih := rooms_comp s0 m P fun x hx => h x (by simp [hx])
    obtain ⟨h1, h2⟩ := h a (by simp)
    rw [List.map_cons, compL]
    simp [compF, tstE, wipeE, ih, btw_i, h1, h2, List.replicate_succ]
theorem rooms_is (P : List Int) (m q : Nat) (h : Pls P m q) (hm : m < 1000) : runF prog consts 200000 (n + 3) 12 [.val (.tuple (P.map .int)), .val (.int m)] = .ok (.bool true, .val) [.emp, .emp] := by
  have hl := h.loud_len
  have hp := h.len
  have rc := rooms_comp n (.val (.tuple (P.map .int))) m P fun x hx => by have := h.bd x hx; omega
  have ri := rising_is (n + 1) P h.lt (by omega)
  have l1 : P.length ≤ lim := le_lim (by omega)
  have l2 : ¬ ((m : Int) < (P.length : Int)) := by omega
  have l3 : ¬ (m < P.length) := by omega
  rw [runF_s (h := rfl) (l := rfl)]
  simp [fd_are_rooms, b_are_rooms, isTy, l1, l2, l3, noIo, wipeE, backE, noExc, rc, all_true, ri]
theorem made_is (m q : Nat) (A B C : D) (P : List Int) (h : Pls P m q) (hm : m < 1000) (hM : runF prog consts 200000 (n + 7) 20 [.val (.tuple [.int 1, .int m, A, B, C])] = .ok (.bool true, .val) [.emp]) :
    runF prog consts 200000 (n + 9) 22 [.valy (sch m A B C P)] = .ok (sch m A B C P, .x1) [.emp] := by
  have r12 := rooms_is (n + 4) P m q h hm
  have h21 : runF prog consts 200000 (n + 8) 21 [.valy (sch m A B C P)] = .ok (.none, .val) [.emp] := by
    rw [runF_s (h := rfl) (l := rfl)]
    simp [fd_wrong_scheme, b_wrong_scheme, sch, tup_y, itemAt, place, hM, r12]
  rw [runF_s (h := rfl) (l := rfl)]
  simp [fd_made_scheme, b_made_scheme, h21, putS]
theorem loud_comp (s0 : Slot) (m : Nat) (A B C : D) (P : List Int) (h0 : s0 = .valy (sch m A B C P)) : ∀ (R : List Int),
    compL (compF (runF prog consts 200000 n) consts (.var 1) (.cmp .notin (.var 1) (.ix (.var 0) (.lit (.int 1)))) (.var 1) [1]) (R.map .int) [s0, .emp] = .ok ((R.filter fun x => !P.contains x).map .int) [s0, .emp]
  | [] => rfl
  | a :: R => by
    have ih := loud_comp s0 m A B C P h0 R
    subst h0
    rw [List.map_cons, compL, List.filter_cons]
    have ni := notin_T a P
    unfold sch at ih ⊢
    cases c : P.contains a
    · rw [c] at ni
      simp [compF, tstE, wipeE, itemAt, place, ni, ih, pure]
    · rw [c] at ni
      simp [compF, tstE, wipeE, itemAt, place, ni, ih, pure]
theorem loud_is (m : Nat) (A B C : D) (P : List Int) (hm : m < 1000) : runF prog consts 200000 (n + 1) 58 [.valy (sch m A B C P)] = .ok (.list ((loudR m P).map .int), .fr) [.emp] := by
  have lc := loud_comp n (.valy (sch m A B C P)) m A B C P rfl (rng m)
  have i1 : inR (m : Int) = true := inR_of (by omega) (by omega)
  have l1 : (rng m).length ≤ lim := le_lim (by rw [len_rng]; omega)
  rw [rangeL_rng m |>.symm] at lc
  have l2 : (rangeL 0 m).length ≤ lim := le_lim (by rw [rangeL_length]; omega)
  rw [runF_s (h := rfl) (l := rfl)]
  unfold sch at lc ⊢
  simp [fd_loud_rooms, b_loud_rooms, itemAt, place, i1, l2, noIo, wipeE, backE, noExc, lc, loudR]
end
end TI

set_option Elab.async false
set_option autoImplicit false
set_option maxRecDepth 100000
set_option maxHeartbeats 1000000
set_option linter.all false
/-! W22: told_stretch; loud stretches. -/
namespace TI
open PySem
theorem digs_ints : ∀ (k r : Nat), ∃ zs : List Int, digs r k = zs.map .int ∧ zs.length = 2 * k
  | 0, r => ⟨[], rfl, rfl⟩
  | k + 1, r => by
    obtain ⟨zs, e, h⟩ := digs_ints k (r / 2)
    exact ⟨((r % 2 : Nat) : Int) :: 0 :: zs, by simp [digs, e], by simp [h]; omega⟩
theorem unit_ints (l r : Nat) : ∃ zs : List Int, unitL l r = zs.map .int ∧ zs.length = uz l := by
  obtain ⟨zs, e, h⟩ := digs_ints (dlo l) r
  exact ⟨1 :: 1 :: 1 :: 1 :: 0 :: zs, by simp [unitL, e], by simp [h, uz]; omega⟩
theorem flat_ints2 (zs : List Int) (k : Nat) : (List.replicate k (zs.map PyData.int)).flatten = ((List.replicate k zs).flatten).map .int := by
  induction k with
  | zero => rfl
  | succ k ih => rw [List.replicate_succ, List.flatten_cons, ih, List.replicate_succ, List.flatten_cons, List.map_append]
theorem flenI (a : List Int) (k : Nat) : (List.replicate k a).flatten.length = k * a.length := by
  induction k with
  | zero => simp
  | succ k ih => rw [List.replicate_succ, List.flatten_cons, List.length_append, ih, Nat.succ_mul]; omega
theorem loud_both (l j size : Nat) (hl : l < 8) (hj : j < l) (h1 : (uz l : Int) * ((uz l : Int) + 1) ≤ size) (h2 : size ≤ 5000) :
    ∃ zs : List Int, zs.length ≤ 22000 ∧ (∀ n, runF prog consts 200000 (n + 3) 49 [.val (.int l), .val (.int j), .val (.int size)] = .ok (.tuple (zs.map .int), .val) [.emp, .emp, .emp]) ∧
    (∀ n, runF prog consts 200000 (n + 3) 80 [.val (.int l), .val (.int j), .val (.int size)] = .ok (.tuple (zs.map .int), .val) [.emp, .emp, .emp]) := by
  obtain ⟨us, ue, ul⟩ := unit_ints l j
  obtain ⟨u5, u11⟩ := uz_le l
  have ulen : (unitL l j).length = uz l := by rw [ue, List.length_map, ul]
  have h3 : uz l * (uz l + 1) ≤ size := by exact_mod_cast h1
  have d1 : size / uz l ≤ 1000 := by
    have : size / uz l ≤ size / 5 := Nat.div_le_div_left u5 (by omega)
    omega
  have d2 : uz l + 1 ≤ size / uz l := (Nat.le_div_iff_mul_le (by omega)).mpr (by rw [Nat.mul_comm]; exact h3)
  have d3 : size % uz l < uz l := Nat.mod_lt _ (by omega)
  have a := fun n => loud_of (n + 2) 200000 l j (unitL l j) (size / uz l) (size % uz l) size (unit_48 n l j hl hj) (by omega) (by omega) (by rw [ulen]; rfl) (by rw [ulen]; rfl) (by omega) (by omega)
  have b := fun n => pt_loud_is (n + 2) 200000 l j (unitL l j) (size / uz l) (size % uz l) size (unit_74 n l j hl hj) (by omega) (by omega) (by rw [ulen]; rfl) (by rw [ulen]; rfl) (by omega) (by omega)
  have e : loudL (unitL l j) (size / uz l) (size % uz l) = (us ++ (List.replicate (size % uz l) (us ++ [0])).flatten ++ (List.replicate (size / uz l - 1 - size % uz l) us).flatten).map .int := by
    unfold loudL
    rw [ue, List.map_append, List.map_append, flat_ints2]
    have := flat_ints2 (us ++ [0]) (size % uz l)
    rw [List.map_append] at this
    rw [← this]
    rfl
  simp only [e] at a b
  refine ⟨_, ?_, a, b⟩
  have m1 : (size % uz l) * (us.length + 1) ≤ 11 * 12 := Nat.mul_le_mul (by omega) (by omega)
  have m2 : (size / uz l - 1 - size % uz l) * us.length ≤ 1000 * 11 := Nat.mul_le_mul (by omega) (by omega)
  rw [List.length_append, List.length_append, flenI, flenI, List.length_append]
  simp only [List.length_cons, List.length_nil, Nat.zero_add]
  omega
section
variable (n : Nat)
/-- what all calls of a scheme's functions rest on -/
structure Cf (m q l : Nat) (A B C : D) (P : List Int) (k s : Int) : Prop where
  pl : Pls P m q
  pq : Pq q k s
  lk : lo q l ≤ k
  l8 : l < 8
  ml : m = q + l
  m1 : 1 ≤ m
  mc : ∀ n, runF prog consts 200000 (n + 7) 20 [.val (.tuple [.int 1, .int m, A, B, C])] = .ok (.bool true, .val) [.emp]
theorem Cf.ll {m q l : Nat} {A B C : D} {P : List Int} {k s : Int} (c : Cf m q l A B C P k s) : (loudR m P).length = l := by
  have := c.pl.loud_len
  have := c.ml
  omega
theorem told59 {m q l : Nat} {A B C : D} {P : List Int} {k s : Int} (c : Cf m q l A B C P k s) : runF prog consts 200000 (n + 5) 59 [.valy (sch m A B C P), .val (.int k)] = .ok (.tuple [.list (P.map .int), .list ((loudR m P).map .int)], .val) [.emp, .emp] := by
  have ll := c.ll
  have q6 := c.pq.q6
  have l8 := c.l8
  have ml := c.ml
  have pl := c.pl.len
  have h58 := loud_is (n + 3) m A B C P (by omega)
  have l1 : biOp .list1 [.tuple (P.map .int)] = some (.list (P.map .int), .fr) := rfl
  have q5 : ¬ (5 : Int) < (q : Int) := by omega
  have h55 := thin55 n q l q6 l8 k c.lk
  rw [runF_s (h := rfl) (l := rfl)]
  unfold sch at h58 ⊢
  simp [fd_check_told_plan, b_check_told_plan, itemAt, place, l1, h58, putS, pl, q5, ll, h55, le_lim, pure]
/-- a quiet room's stretch -/
theorem told_quiet {m q l : Nat} {A B C : D} {P : List Int} {k s : Int} (c : Cf m q l A B C P k s) (i : Nat) (hi : i < P.length) (size : Nat) (h1 : lst q l k s ≤ size) (h2 : size ≤ 5000) (x : D × Fl)
    (hx : runF prog consts 200000 (n + 8) 42 [.val (.int k), .val (.int q), .val (.int i), .val (.int size)] = .ok x [.emp, .emp, .emp, .emp]) (hf : x.2.isBr = false) :
    ∃ x', x'.1 = x.1 ∧ x'.2.isBr = false ∧ runF prog consts 200000 (n + 10) 61 [.valy (sch m A B C P), .val (.int k), .val (.int P[i]), .val (.int size)] = .ok x' [.emp, .emp, .emp, .emp] := by
  have ll := c.ll
  have q6 := c.pq.q6
  have l8 := c.l8
  have ml := c.ml
  have pl := c.pl.len
  have bd := c.pl.bd P[i] (List.getElem_mem hi)
  have h22 := made_is n m q A B C P c.pl (by omega) (c.mc n)
  have h5 := k_ok (n + 6) 200000 k c.pq.k0 c.pq.k6
  have h59 := told59 (n + 4) c
  have h54 := ts54 n c.pq l l8
  have b1 : (P[i] : Int) ≤ (m : Int) - 1 := by omega
  have b2 : (size : Int) ≤ 5000 := by omega
  have it := in_T P[i] P
  rw [show P.contains P[i] = true from by simp] at it
  have ix := idx_T P i hi c.pl.nodup
  have h60 : ∃ x', x'.1 = x.1 ∧ x'.2.isBr = false ∧ runF prog consts 200000 (n + 9) 60 [.valy (sch m A B C P), .val (.int k), .val (.int P[i]), .val (.int size)] = .ok x' [.emp, .emp, .emp, .emp] := by
    obtain ⟨d, fl⟩ := x
    refine ⟨(d, fl), rfl, hf, ?_⟩
    rw [runF_s (h := rfl) (l := rfl)]
    unfold sch
    cases fl with
    | br z => cases hf
    | fr =>
      simp [fd_room_stretch_of, b_room_stretch_of, putS, it, ix, pl, hx, mtOk]
    | val =>
      simp [fd_room_stretch_of, b_room_stretch_of, putS, it, ix, pl, hx, mtOk]
    | xt =>
      simp [fd_room_stretch_of, b_room_stretch_of, putS, it, ix, pl, hx, mtOk]
    | x1 =>
      simp [fd_room_stretch_of, b_room_stretch_of, putS, it, ix, pl, hx, mtOk]
  obtain ⟨⟨d, fl⟩, e1, e2, h60⟩ := h60
  refine ⟨(d, fl), e1, e2, ?_⟩
  rw [runF_s (h := rfl) (l := rfl)]
  unfold sch at *
  cases fl with
  | br z => cases e2
  | _ => simp [fd_told_stretch, b_told_stretch, h22, h5, h59, putS, itemAt, place, btw_i, bd, b1, b2, pl, ll, h54, h1, h60]
/-- a loud room's stretch -/
theorem told_loud {m q l : Nat} {A B C : D} {P : List Int} {k s : Int} (c : Cf m q l A B C P k s) (j : Nat) (hj : j < (loudR m P).length) (size : Nat) (h1 : lst q l k s ≤ size) (h2 : size ≤ 5000) (d : D)
    (hx : runF prog consts 200000 (n + 8) 49 [.val (.int l), .val (.int j), .val (.int size)] = .ok (d, .val) [.emp, .emp, .emp]) :
    runF prog consts 200000 (n + 10) 61 [.valy (sch m A B C P), .val (.int k), .val (.int (loudR m P)[j]), .val (.int size)] = .ok (d, .val) [.emp, .emp, .emp, .emp] := by
  have ll := c.ll
  have q6 := c.pq.q6
  have l8 := c.l8
  have ml := c.ml
  have pl := c.pl.len
  obtain ⟨bd, np⟩ := mem_loud.mp (List.getElem_mem hj)
  have h22 := made_is n m q A B C P c.pl (by omega) (c.mc n)
  have h5 := k_ok (n + 6) 200000 k c.pq.k0 c.pq.k6
  have h59 := told59 (n + 4) c
  have h54 := ts54 n c.pq l l8
  have h58 := loud_is (n + 7) m A B C P (by omega)
  have b1 : ((loudR m P)[j] : Int) ≤ (m : Int) - 1 := by omega
  have b2 : (size : Int) ≤ 5000 := by omega
  have it := in_T (loudR m P)[j] P
  rw [show P.contains (loudR m P)[j] = false from by simpa using np] at it
  have ix := idx_L (loudR m P) j hj (loud_nodup m P)
  generalize (loudR m P)[j] = r at *
  have h60 : runF prog consts 200000 (n + 9) 60 [.valy (sch m A B C P), .val (.int k), .val (.int r), .val (.int size)] = .ok (d, .val) [.emp, .emp, .emp, .emp] := by
    rw [runF_s (h := rfl) (l := rfl)]
    unfold sch at h58 ⊢
    simp [fd_room_stretch_of, b_room_stretch_of, putS, it, ix, pl, h58, ll, hx, mtOk, pure]
  rw [runF_s (h := rfl) (l := rfl)]
  unfold sch at *
  simp [fd_told_stretch, b_told_stretch, h22, h5, h59, putS, itemAt, place, btw_i, bd, b1, b2, pl, ll, h54, h1, h60]
/-- rooms and sizes that are none -/
theorem told_bad {m q l : Nat} {A B C : D} {P : List Int} {k s : Int} (c : Cf m q l A B C P k s) (room small : D)
    (hr : runF prog consts 200000 (n + 9) 1 [.val room, .val (.int 0), .val (.int ((m : Int) - 1))] = .ok (.bool false, .val) [.emp, .emp, .emp]) :
    runF prog consts 200000 (n + 10) 61 [.valy (sch m A B C P), .val (.int k), .val room, .val small] = .exc 7 room [.emp, .emp, .emp, .emp] := by
  have ml := c.ml
  have q6 := c.pq.q6
  have l8 := c.l8
  have h22 := made_is n m q A B C P c.pl (by omega) (c.mc n)
  have h5 := k_ok (n + 6) 200000 k c.pq.k0 c.pq.k6
  have h59 := told59 (n + 4) c
  rw [runF_s (h := rfl) (l := rfl)]
  unfold sch at *
  simp [fd_told_stretch, b_told_stretch, h22, h5, h59, putS, itemAt, place, hr]
theorem told_bad2 {m q l : Nat} {A B C : D} {P : List Int} {k s : Int} (c : Cf m q l A B C P k s) (small : D)
    (hr : runF prog consts 200000 (n + 9) 1 [.val small, .val (.int (lst q l k s)), .val (.int 5000)] = .ok (.bool false, .val) [.emp, .emp, .emp]) :
    runF prog consts 200000 (n + 10) 61 [.valy (sch m A B C P), .val (.int k), .val (.int 0), .val small] = .exc 9 (.int (lst q l k s)) [.emp, .emp, .emp, .emp] := by
  have ll := c.ll
  have pl := c.pl.len
  have ml := c.ml
  have m1 := c.m1
  have q6 := c.pq.q6
  have l8 := c.l8
  have h22 := made_is n m q A B C P c.pl (by omega) (c.mc n)
  have h5 := k_ok (n + 6) 200000 k c.pq.k0 c.pq.k6
  have h59 := told59 (n + 4) c
  have h54 := ts54 n c.pq l l8
  have b1 : (0 : Int) ≤ (m : Int) - 1 := by omega
  have b3 : (1 : Int) ≤ (m : Int) := by omega
  rw [runF_s (h := rfl) (l := rfl)]
  unfold sch at *
  simp [fd_told_stretch, b_told_stretch, h22, h5, h59, putS, itemAt, place, btw_i, b1, b3, pl, ll, h54, hr]
end
end TI

set_option Elab.async false
set_option autoImplicit false
set_option maxRecDepth 100000
set_option maxHeartbeats 1000000
set_option linter.all false
/-! W23: _law_quiet_right. -/
namespace TI
open PySem
theorem skol {α β : Type} [Inhabited α] [Inhabited β] (q : Nat) (Pr : Nat → α → β → Prop) (h : ∀ r, r < q → ∃ a b, Pr r a b) : ∃ (Z : Nat → α) (F : Nat → β), ∀ r, r < q → Pr r (Z r) (F r) := by
  refine ⟨fun r => if h' : r < q then Classical.choose (h r h') else default, fun r => if h' : r < q then Classical.choose (Classical.choose_spec (h r h')) else default, fun r hr => ?_⟩
  simp only [dif_pos hr]
  exact Classical.choose_spec (Classical.choose_spec (h r hr))
theorem ints_ok (zs : List Int) : PyData.canLayAll0 (zs.map .int) = true ∧ PyData.depthAll (zs.map .int) = 0 ∧ sz.szs (zs.map .int) = zs.length := by
  induction zs with
  | nil => exact ⟨rfl, rfl, rfl⟩
  | cons a r ih =>
    obtain ⟨h1, h2, h3⟩ := ih
    refine ⟨by simp [PyData.canLayAll0, PyData.canLay0, h1], ?_, by simp [sz.szs, sz, h3]; omega⟩
    simp only [List.map_cons, PyData.depthAll, PyData.depth]
    rw [h2]; rfl
theorem so_told : PyData.strOk (Str.ofString "told") = true := by kernel_rfl
theorem same_told (n : Nat) (zs : List Int) (h : zs.length ≤ 80000) : runF prog consts 200000 (n + 2) 68 [.val (.tuple [.str "told", .tuple (zs.map .int)]), .val (.tuple [.str "told", .tuple (zs.map .int)])] = .ok (.bool true, .val) [.emp, .emp] := by
  obtain ⟨h1, h2, h3⟩ := ints_ok zs
  refine same_is n 200000 _ ⟨by simp [PyData.canLay0, PyData.canLayAll0, h1, so_told], ?_⟩ ?_ ?_
  · simp [PyData.depth, PyData.depthAll, h2]
  · simp [sz, sz.szs, h3]; omega
  · simp [sz, sz.szs, h3]; omega
theorem same_told1 (n : Nat) (z : Int) : runF prog consts 200000 (n + 2) 68 [.val (.tuple [.str "told", .int z]), .val (.tuple [.str "told", .int z])] = .ok (.bool true, .val) [.emp, .emp] := by
  refine same_is n 200000 _ ⟨by simp [PyData.canLay0, PyData.canLayAll0, so_told], ?_⟩ ?_ ?_
  · simp [PyData.depth, PyData.depthAll]
  · simp [sz, sz.szs]
  · simp [sz, sz.szs]
/-- the dots of rooms' stretches -/
def sums (Z : Nat → List Int) : Nat → Nat → List Int
  | _, 0 => []
  | i, m + 1 => (Z i).sum :: sums Z (i + 1) m
theorem sums_len (Z : Nat → List Int) : ∀ m i, (sums Z i m).length = m
  | 0, i => rfl
  | m + 1, i => by simp [sums, sums_len Z m (i + 1)]
/-- what each quiet room's stretch is -/
def Qz (q : Nat) (k : Int) (size : Nat) (Z : Nat → List Int) (F : Nat → Fl) : Prop := ∀ r, r < q → (Z r).length = size ∧ (F r = .val ∨ F r = .xt) ∧ (r = 0 → Z r = List.replicate size 0) ∧
    (∀ n, runF prog consts 200000 (n + 8) 42 [.val (.int k), .val (.int q), .val (.int r), .val (.int size)] = .ok (.tuple ((Z r).map .int), F r) [.emp, .emp, .emp, .emp]) ∧
    (∀ n, runF prog consts 200000 (n + 8) 79 [.val (.int k), .val (.int q), .val (.int r), .val (.int size)] = .ok (.tuple ((Z r).map .int), F r) [.emp, .emp, .emp, .emp])
section
variable (n : Nat)
theorem st44 {q : Nat} {k s : Int} (p : Pq q k s) (size : Nat) (h1 : shq q k s ≤ size) (h2 : size ≤ 5000) (Z : Nat → List Int) (F : Nat → Fl) (hz : Qz q k size Z F) (r : Nat) (hr : r < q) :
    runF prog consts 200000 (n + 10) 44 [.val (.int k), .val (.int q), .val (.int r), .val (.int size)] = .ok (.tuple ((Z r).map .int), F r) [.emp, .emp, .emp, .emp] := by
  obtain ⟨z1, z2, z3, z4, z5⟩ := hz r hr
  have h35 := plan35 (n + 5) p
  have h43 := size43 n p size h1 h2
  have mx : biOp .max2 [.int ((q : Int) - 1), .int 0] = some (.int ((q : Int) - 1), .val) := by
    rw [max_2, if_neg (by omega)]
  have b1 : (r : Int) ≤ (q : Int) - 1 := by omega
  have b2 : (0 : Int) ≤ r := by omega
  have hb := btw_i (n + 7) 200000 r 0 ((q : Int) - 1)
  rw [show (decide ((0 : Int) ≤ r) && decide ((r : Int) ≤ (q : Int) - 1)) = true by simp; omega] at hb
  rw [runF_s (h := rfl) (l := rfl)]
  rcases z2 with z2 | z2 <;> rw [z2] at z4 ⊢ <;> simp [-max_2, fd_stretch, b_stretch, h35, h43, mx, hb, z4 (n + 1)]
theorem bound_comp {q : Nat} {k : Int} (size : Nat) (Z : Nat → List Int) (F : Nat → Fl) (hz : Qz q k size Z F) : ∀ (m i : Nat), i + m ≤ q →
    compL (compF (runF prog consts 200000 (n + 9)) consts (.var 3) .nil (.bi .sum (.cons (.call 42 (.cons (.var 0) (.cons (.var 1) (.cons (.var 3) (.cons (.var 2) .nil))))) .nil)) [3]) (rangeL i m) [.val (.int k), .val (.int q), .val (.int size), .emp] = .ok ((sums Z i m).map .int) [.val (.int k), .val (.int q), .val (.int size), .emp]
  | 0, i, _ => rfl
  | m + 1, i, h => by
    have ih := bound_comp size Z F hz m (i + 1) (by omega)
    obtain ⟨z1, z2, z3, z4, z5⟩ := hz i (by omega)
    have e1 : ((i + 1 : Nat) : Int) = (i : Int) + 1 := by omega
    rw [e1] at ih
    have su := sum_T (Z i)
    rw [rangeL, compL, sums]
    rcases z2 with z2 | z2 <;> rw [z2] at z4 <;> simp [compF, tstE, wipeE, z4 (n + 1), su, ih]
theorem sum_rep0 (k : Nat) : (List.replicate k (0 : Int)).sum = 0 := by
  induction k with
  | zero => rfl
  | succ k ih => rw [List.replicate_succ, List.sum_cons, ih]; rfl
theorem bound62 {q : Nat} {k s : Int} (p : Pq q k s) (size : Nat) (h1 : shq q k s ≤ size) (h2 : size ≤ 5000) (Z : Nat → List Int) (F : Nat → Fl) (hz : Qz q k size Z F) :
    ∃ M : Int, runF prog consts 200000 (n + 10) 62 [.val (.int k), .val (.int q), .val (.int size)] = .ok (.int M, .val) [.emp, .emp, .emp] ∧ biOp .max1 [.list (.int 0 :: (sums Z 0 q).map .int)] = some (.int M, .val) := by
  have h35 := plan35 (n + 5) p
  have h43 := size43 n p size h1 h2
  have q6 := p.q6
  by_cases h : 1 ≤ q
  · obtain ⟨q', rfl⟩ : ∃ q', q = q' + 1 := ⟨q - 1, by omega⟩
    have bc := bound_comp n size Z F hz (q' + 1) 0 (by omega)
    simp only [show ((0 : Nat) : Int) = 0 from rfl] at bc
    have mx : biOp .max2 [.int ((q' + 1 : Nat) : Int), .int 1] = some (.int ((q' + 1 : Nat) : Int), .val) := by
      rw [max_2, if_neg (by omega)]
    have i1 : inR ((q' + 1 : Nat) : Int) = true := inR_of (by omega) (by omega)
    have z0 : (Z 0).sum = 0 := by
      rw [(hz 0 (by omega)).2.2.1 rfl, sum_rep0]
    have l1 : (rangeL 0 (q' + 1)).length ≤ lim := le_lim (by rw [rangeL_length]; omega)
    refine ⟨((sums Z 1 q').foldl (fun m x => if x > m then x else m) 0), ?_, ?_⟩
    · have mx1 : biOp .max1 [.list ((sums Z 0 (q' + 1)).map .int)] = some (.int ((sums Z 1 q').foldl (fun m x => if x > m then x else m) 0), .val) := by
        rw [bi_max1L, nums_ints, Option.bind_some, sums, z0]; rfl
      have tn : ((q' + 1 : Nat) : Int).toNat = q' + 1 := by omega
      generalize ((q' + 1 : Nat) : Int) = qi at *
      rw [runF_s (h := rfl) (l := rfl)]
      simp [-max_2, fd_bound, b_bound, h35, h43, mx, i1, tn, l1, noIo, wipeE, backE, noExc, bc, mx1]
    · rw [bi_max1L]
      have : (PyData.int 0 :: (sums Z 0 (q' + 1)).map .int) = (0 :: sums Z 0 (q' + 1)).map .int := rfl
      rw [this, nums_ints, Option.bind_some, sums, z0]; rfl
  · have e : q = 0 := by omega
    subst e
    obtain ⟨a, b⟩ := quiet0 (n + 8) k 0 size h2
    have su := sum_T (List.replicate size 0)
    rw [sum_rep0] at su
    refine ⟨0, ?_, rfl⟩
    have mx : biOp .max2 [.int 0, .int 1] = some (.int 1, .val) := rfl
    have m1 : biOp .max1 [.list [.int 0]] = some (.int 0, .val) := rfl
    have i1 : inR 1 = true := by decide
    simp only [show ((0 : Nat) : Int) = 0 from rfl] at h35 h43 ⊢
    simp only [List.map_replicate] at a su
    rw [runF_s (h := rfl) (l := rfl)]
    simp [-max_2, fd_bound, b_bound, h35, h43, mx, i1, rangeL, le_lim, noIo, wipeE, backE, noExc, compL, compF, tstE, a, su, m1]
end
end TI

set_option Elab.async false
set_option autoImplicit false
set_option maxRecDepth 100000
set_option maxHeartbeats 1000000
set_option linter.all false
/-! W24: _law_quiet_right, _law_loud_right. -/
namespace TI
open PySem
theorem it0 (x : D) (xs : List D) : itemAt (x :: xs) 0 = some x := itemAt_nat (x :: xs) 0 (by simp)
theorem it1 (x y : D) (xs : List D) : itemAt (x :: y :: xs) 1 = some y := itemAt_nat (x :: y :: xs) 1 (by simp)
theorem it2 (x y z : D) (xs : List D) : itemAt (x :: y :: z :: xs) 2 = some z := itemAt_nat (x :: y :: z :: xs) 2 (by simp)
instance : Inhabited Fl := ⟨.val⟩
def quietB : IS := match b_law_quiet_right with
  | .cons _ (.cons (.forr _ _ b) _) => b
  | _ => .nil
section
variable (n : Nat)
theorem quiet_loop {m q l : Nat} {A B C : D} {P : List Int} {k s : Int} (c : Cf m q l A B C P k s) (jar : List D) (size : Nat) (h1 : lst q l k s ≤ size) (h2 : size ≤ 5000) (Z : Nat → List Int) (F : Nat → Fl) (hz : Qz q k size Z F) :
    ∀ (r i : Nat) (ds : List Int) (s7 s8 : Slot), i + r = q → ds.length = i → okPut (some s7) = true → okPut (some s8) = true →
    ∃ s7' s8', forL (forF (runF prog consts 200000 (n + 10)) consts 200000 (.var 7) quietB) (rangeL i r) [.io jar, .valy (sch m A B C P), .val (.int k), .val (.int q), .val (.int l), .val (.int size), .own (ds.map .int), s7, s8] =
      .next [.io jar, .valy (sch m A B C P), .val (.int k), .val (.int q), .val (.int l), .val (.int size), .own ((ds ++ sums Z i r).map .int), s7', s8']
  | 0, i, ds, s7, s8, _, _, _, _ => ⟨s7, s8, by simp [sums, rangeL, forL]⟩
  | r + 1, i, ds, s7, s8, e, dl, h7, h8 => by
    obtain ⟨z1, z2, z3, z4, z5⟩ := hz i (by omega)
    have pl := c.pl.len
    have hi : i < P.length := by omega
    have ge := lst_ge q l k s
    obtain ⟨⟨d, fl⟩, e1, e2, h61⟩ := told_quiet n c i hi size h1 h2 _ (z4 n) (by rcases z2 with z | z <;> rw [z] <;> rfl)
    simp only at e1
    subst e1
    have h44 := st44 n c.pq size (by omega) h2 Z F hz i (by omega)
    have sm := same_told (n + 8) (Z i) (by omega)
    have su := sum_T (Z i)
    have it : itemAt (P.map .int) (i : Int) = some (.int P[i]) := by rw [itemAt_nat _ _ (by simpa using hi)]; simp
    have q6 := c.pq.q6
    have al : (ds.length) < lim := lt_lim (by omega)
    obtain ⟨s7', s8', ih⟩ := quiet_loop c jar size h1 h2 Z F hz r (i + 1) (ds ++ [(Z i).sum]) (.val (.int i)) (match F i with | .xt => .valx (.tuple ((Z i).map .int)) | _ => .val (.tuple ((Z i).map .int))) (by omega) (by simp; omega) rfl (by rcases z2 with z | z <;> rw [z] <;> rfl)
    refine ⟨s7', s8', ?_⟩
    have e3 : ((i + 1 : Nat) : Int) = (i : Int) + 1 := by omega
    rw [e3, List.append_assoc] at ih
    rw [rangeL, forL, sums, show (Z i).sum :: sums Z (i + 1) r = [(Z i).sum] ++ sums Z (i + 1) r from rfl, ← ih]
    have z5 := z5 (n + 2)
    by_cases l0 : l = 0
    · subst l0
      rcases z2 with z | z <;> rw [z] at z5 h44 ⊢ <;> cases fl <;> simp only [Fl.isBr, Bool.true_eq_false] at e2 <;> (unfold sch at *; simp [-bt_var, bt_b, putS_b, h7, h8, forF, quietB, b_law_quiet_right, z5, h61, h44, it, it0, it1, sm, le_lim, su, isHeld, modL, al])
    · have l1 : ¬ (l : Int) = 0 := by omega
      rcases z2 with z | z <;> rw [z] at z5 h44 ⊢ <;> cases fl <;> simp only [Fl.isBr, Bool.true_eq_false] at e2 <;> (unfold sch at *; simp [-bt_var, bt_b, putS_b, h7, h8, forF, quietB, b_law_quiet_right, z5, h61, h44, it, it0, it1, sm, le_lim, su, isHeld, modL, al, l0, l1])
theorem quiet_right {m q l : Nat} {A B C : D} {P : List Int} {k s : Int} (c : Cf m q l A B C P k s) (jar : List D) (size : Nat) (h1 : lst q l k s ≤ size) (h2 : size ≤ 5000) :
    runF prog consts 200000 (n + 11) 85 [.io jar, .valy (sch m A B C P), .val (.int k), .val (.int q), .val (.int l), .val (.int size)] = .ok (.bool true, .val) [.io jar, .emp, .emp, .emp, .emp, .emp] := by
  have ge := lst_ge q l k s
  have q6 := c.pq.q6
  obtain ⟨Z, F, hz⟩ := skol q (fun r zs fl => zs.length = size ∧ (fl = .val ∨ fl = .xt) ∧ (r = 0 → zs = List.replicate size 0) ∧
    (∀ n, runF prog consts 200000 (n + 8) 42 [.val (.int k), .val (.int q), .val (.int r), .val (.int size)] = .ok (.tuple (zs.map .int), fl) [.emp, .emp, .emp, .emp]) ∧
    (∀ n, runF prog consts 200000 (n + 8) 79 [.val (.int k), .val (.int q), .val (.int r), .val (.int size)] = .ok (.tuple (zs.map .int), fl) [.emp, .emp, .emp, .emp])) (fun r hr => quiet_both c.pq r hr size (by omega) h2)
  have hz : Qz q k size Z F := hz
  obtain ⟨s7, s8, lp⟩ := quiet_loop n c jar size h1 h2 Z F hz q 0 [] .emp .emp (by omega) rfl rfl rfl
  obtain ⟨M, h62, mx⟩ := bound62 n c.pq size (by omega) h2 Z F hz
  have sm := same_told1 (n + 8) M
  have i1 : inR (q : Int) = true := inR_of (by omega) (by omega)
  have l1 : (rangeL 0 q).length ≤ lim := le_lim (by rw [rangeL_length]; omega)
  have a1 : binOp .add (.list [.int 0]) (.list ((sums Z 0 q).map .int)) = some (.list (.int 0 :: (sums Z 0 q).map .int)) := b_addL _ _ (le_lim (by simp [sums_len]; omega))
  simp only [show ((0 : Nat) : Int) = 0 from rfl, List.nil_append, List.map_nil] at lp
  rw [runF_s (h := rfl) (l := rfl)]
  unfold quietB b_law_quiet_right at lp
  simp [fd_law_quiet_right, b_law_quiet_right, putS, i1, l1, lp, le_lim, h62, a1, mx, sm, pure]
theorem chk50 (l j : Nat) (hl : l < 8) (hj : j < l) : runF prog consts 200000 (n + 4) 50 [.val (.int l), .val (.int j)] = .ok (.none, .val) [.emp, .emp] := by
  have b1 : (j : Int) ≤ (l : Int) - 1 := by omega
  rw [runF_s (h := rfl) (l := rfl)]
  simp [fd_check_loud, b_check_loud, many_ok n 200000 l 1 16 (by omega) (by omega), btw_i, b1]
theorem unit51 (l j : Nat) (hl : l < 8) (hj : j < l) : runF prog consts 200000 (n + 5) 51 [.val (.int l), .val (.int j)] = .ok (.tuple (unitL l j), .val) [.emp, .emp] := by
  rw [runF_s (h := rfl) (l := rfl)]
  simp [fd_loud_unit, b_loud_unit, chk50 n l j hl hj, unit_48 (n + 2) l j hl hj]
theorem str52 (l j size : Nat) (hl : l < 8) (hj : j < l) (h1 : (uz l : Int) * ((uz l : Int) + 1) ≤ size) (h2 : size ≤ 5000) (d : D) (h49 : runF prog consts 200000 (n + 4) 49 [.val (.int l), .val (.int j), .val (.int size)] = .ok (d, .val) [.emp, .emp, .emp]) :
    runF prog consts 200000 (n + 5) 52 [.val (.int l), .val (.int j), .val (.int size)] = .ok (d, .val) [.emp, .emp, .emp] := by
  have b2 : (size : Int) ≤ 5000 := by omega
  rw [runF_s (h := rfl) (l := rfl)]
  simp [fd_loud_stretch, b_loud_stretch, chk50 n l j hl hj, ll47 (n + 1) l (by omega) hl, btw_i, h1, b2, h49]
def loudB : IS := match b_law_loud_right with
  | .cons _ (.cons (.forr _ _ b) _) => b
  | _ => .nil
theorem same_two (zs : List Int) (h : zs.length ≤ 40000) : runF prog consts 200000 (n + 2) 68 [.val (.tuple [.str "told", .tuple [.tuple (zs.map .int), .tuple (zs.map .int)]]), .val (.tuple [.str "told", .tuple [.tuple (zs.map .int), .tuple (zs.map .int)]])] = .ok (.bool true, .val) [.emp, .emp] := by
  obtain ⟨h1, h2, h3⟩ := ints_ok zs
  refine same_is n 200000 _ ⟨by simp [PyData.canLay0, PyData.canLayAll0, h1, so_told], ?_⟩ ?_ ?_
  · simp [PyData.depth, PyData.depthAll, h2]
  · simp [sz, sz.szs, h3]; omega
  · simp [sz, sz.szs, h3]; omega
theorem same_ints (zs : List Int) (h : zs.length ≤ 80000) : runF prog consts 200000 (n + 2) 68 [.val (.tuple (zs.map .int)), .val (.tuple (zs.map .int))] = .ok (.bool true, .val) [.emp, .emp] := by
  obtain ⟨h1, h2, h3⟩ := ints_ok zs
  refine same_is n 200000 _ ⟨by simp [PyData.canLay0, h1], ?_⟩ ?_ ?_
  · simp [PyData.depth, h2]
  · simp [sz, h3]; omega
  · simp [sz, h3]; omega
theorem loud_loop {m q l : Nat} {A B C : D} {P : List Int} {k s : Int} (c : Cf m q l A B C P k s) (jar : List D) (size : Nat) (h1 : lst q l k s ≤ size) (h2 : size ≤ 5000) (s9 : Slot) :
    ∀ (r i : Nat) (s6 s7 s8 : Slot), i + r = l → okPut (some s6) = true → okPut (some s7) = true → okPut (some s8) = true →
    ∃ s6' s7' s8', forL (forF (runF prog consts 200000 (n + 10)) consts 200000 (.var 6) loudB) (rangeL i r) [.io jar, .valy (sch m A B C P), .val (.int k), .val (.int l), .val (.int size), .own ((loudR m P).map .int), s6, s7, s8, s9] =
      .next [.io jar, .valy (sch m A B C P), .val (.int k), .val (.int l), .val (.int size), .own ((loudR m P).map .int), s6', s7', s8', s9]
  | 0, i, s6, s7, s8, _, _, _, _ => ⟨s6, s7, s8, rfl⟩
  | r + 1, i, s6, s7, s8, e, h6, h7, h8 => by
    have ll := c.ll
    have l8 := c.l8
    have hi : i < (loudR m P).length := by omega
    have lz : (uz l : Int) * ((uz l : Int) + 1) ≤ lst q l k s := by
      unfold lst
      rw [if_neg (by omega)]
      split <;> omega
    obtain ⟨zs, zl, h49, h80⟩ := loud_both l i size l8 (by omega) (by omega) h2
    obtain ⟨us, ue, ul⟩ := unit_ints l i
    have u11 := uz_le l
    have h61 := told_loud n c i hi size h1 h2 _ (h49 (n + 5))
    have h52 := str52 (n + 5) l i size l8 (by omega) (by omega) h2 _ (h49 (n + 6))
    have h51 := unit51 (n + 5) l i l8 (by omega)
    have h74 := unit_74 (n + 8) l i l8 (by omega)
    have sm := same_two (n + 8) zs (by omega)
    have sm2 := same_ints (n + 8) us (by omega)
    rw [ue] at h51 h74
    have h80 := h80 (n + 7)
    have it : itemAt ((loudR m P).map .int) (i : Int) = some (.int (loudR m P)[i]) := by rw [itemAt_nat _ _ (by simpa using hi)]; simp
    generalize (loudR m P)[i] = lr at *
    obtain ⟨s6', s7', s8', ih⟩ := loud_loop c jar size h1 h2 s9 r (i + 1) (.val (.int i)) (.val (.tuple (zs.map .int))) (.val (.tuple [.str "told", .tuple [.tuple (zs.map .int), .tuple (zs.map .int)]])) (by omega) rfl rfl rfl
    refine ⟨s6', s7', s8', ?_⟩
    have e3 : ((i + 1 : Nat) : Int) = (i : Int) + 1 := by omega
    rw [e3] at ih
    rw [rangeL, forL, ← ih]
    unfold sch at *
    simp [-bt_var, bt_b, putS_b, h6, h7, h8, forF, loudB, b_law_loud_right, h80, h61, h52, it, le_lim, sm, h51, h74, sm2, pure]
theorem loud_comp2 (s0 s2 s3 s4 s5 s6 s7 s8 s1 : Slot) (m : Nat) (A B C : D) (P : List Int) (h0 : s1 = .valy (sch m A B C P)) : ∀ (R : List Int),
    compL (compF (runF prog consts 200000 n) consts (.var 9) (.cmp .notin (.var 9) (.ix (.var 1) (.lit (.int 1)))) (.var 9) [9]) (R.map .int) [s0, s1, s2, s3, s4, s5, s6, s7, s8, .emp] = .ok ((R.filter fun x => !P.contains x).map .int) [s0, s1, s2, s3, s4, s5, s6, s7, s8, .emp]
  | [] => rfl
  | a :: R => by
    have ih := loud_comp2 s0 s2 s3 s4 s5 s6 s7 s8 s1 m A B C P h0 R
    subst h0
    rw [List.map_cons, compL, List.filter_cons]
    have ni := notin_T a P
    unfold sch at ih ⊢
    cases c : P.contains a
    · rw [c] at ni
      simp [compF, tstE, wipeE, it1, ni, ih, pure]
    · rw [c] at ni
      simp [compF, tstE, wipeE, it1, ni, ih, pure]
theorem loud_right {m q l : Nat} {A B C : D} {P : List Int} {k s : Int} (c : Cf m q l A B C P k s) (jar : List D) (size : Nat) (h1 : lst q l k s ≤ size) (h2 : size ≤ 5000) :
    runF prog consts 200000 (n + 11) 86 [.io jar, .valy (sch m A B C P), .val (.int k), .val (.int l), .val (.int size)] = .ok (.bool true, .val) [.io jar, .emp, .emp, .emp, .emp] := by
  have l8 := c.l8
  have ml := c.ml
  have q6 := c.pq.q6
  obtain ⟨s6, s7, s8, lp⟩ := loud_loop n c jar size h1 h2 .emp l 0 .emp .emp .emp (by omega) rfl rfl rfl
  have lc := loud_comp2 (n + 10) (.io jar) (.val (.int k)) (.val (.int l)) (.val (.int size)) .emp .emp .emp .emp _ m A B C P rfl (rng m)
  rw [rangeL_rng m |>.symm] at lc
  have i1 : inR (l : Int) = true := inR_of (by omega) (by omega)
  have i2 : inR (m : Int) = true := inR_of (by omega) (by omega)
  have l1 : (rangeL 0 l).length ≤ lim := le_lim (by rw [rangeL_length]; omega)
  have l2 : (rangeL 0 m).length ≤ lim := le_lim (by rw [rangeL_length]; omega)
  simp only [show ((0 : Nat) : Int) = 0 from rfl] at lp
  rw [show ((rng m).filter fun x => !P.contains x) = loudR m P from rfl] at lc
  rw [runF_s (h := rfl) (l := rfl)]
  unfold loudB b_law_loud_right at lp
  unfold sch at *
  simp [fd_law_loud_right, b_law_loud_right, putS, i1, i2, l1, l2, lp, lc, le_lim, it0, it1, noIo, wipeE, backE, noExc]
end
end TI

set_option Elab.async false
set_option autoImplicit false
set_option maxRecDepth 100000
set_option maxHeartbeats 1000000
set_option linter.all false
/-! W25: prices, plans, fractions. -/
namespace TI
open PySem
theorem gcd_one (b : Int) : biOp .gcd [.int 1, .int b] = some (.int 1, .val) := by
  show (some (.int ((Nat.gcd (1 : Int).natAbs b.natAbs : Nat) : Int), Fl.val) : Option (D × Fl)) = _
  rw [show (1 : Int).natAbs = 1 from rfl, Nat.gcd_one_left]; rfl
theorem gcd_oneR (b : Int) : biOp .gcd [.int b, .int 1] = some (.int 1, .val) := by
  show (some (.int ((Nat.gcd b.natAbs (1 : Int).natAbs : Nat) : Int), Fl.val) : Option (D × Fl)) = _
  rw [show (1 : Int).natAbs = 1 from rfl, Nat.gcd_one_right]; rfl
/-- a fraction's cut -/
def g2 (S : Int) : Int := if S % 2 = 0 then 2 else 1
theorem gcd_two (S : Int) : biOp .gcd [.int 2, .int S] = some (.int (g2 S), .val) := by
  show (some (.int ((Nat.gcd (2 : Int).natAbs S.natAbs : Nat) : Int), Fl.val) : Option (D × Fl)) = _
  rw [show (2 : Int).natAbs = 2 from rfl, Nat.gcd_rec]
  unfold g2
  by_cases h : S % 2 = 0
  · have : S.natAbs % 2 = 0 := by omega
    rw [this, if_pos h]; rfl
  · have : S.natAbs % 2 = 1 := by omega
    rw [this, if_neg h]; rfl
theorem gcd_twoR (S : Int) : biOp .gcd [.int S, .int 2] = some (.int (g2 S), .val) := by
  rw [← gcd_two]
  show (some (.int ((Nat.gcd S.natAbs (2 : Int).natAbs : Nat) : Int), Fl.val) : Option (D × Fl)) = some (.int ((Nat.gcd (2 : Int).natAbs S.natAbs : Nat) : Int), Fl.val)
  rw [Nat.gcd_comm]
theorem g2_pos (S : Int) : 0 < g2 S ∧ (g2 S).natAbs < 1073741824 := by unfold g2; split <;> decide
theorem eqT2 (a b : Int) : cmpOp .eq (.tuple [.int a, .int b]) (.tuple [.int a, .int b]) = some true := by
  show (if (SeqAt.shaped (.tuple [.int a, .int b]) && SeqAt.shaped (.tuple [.int a, .int b])) = true then some (PyData.eqv (.tuple [.int a, .int b]) (.tuple [.int a, .int b])) else none) = _
  rw [if_pos (by simp [SeqAt.shaped, PyData.canLay0, PyData.canLayAll0, PyData.depth, PyData.depthAll])]
  simp [PyData.eqv, PyData.eqvAll]
theorem eq_nil1 (a : Int) : cmpOp .eq (.tuple [.int a]) (.tuple []) = some false := by
  show (if (SeqAt.shaped (.tuple [.int a]) && SeqAt.shaped (.tuple [])) = true then some (PyData.eqv (.tuple [.int a]) (.tuple [])) else none) = _
  rw [if_pos (by simp [SeqAt.shaped, PyData.canLay0, PyData.canLayAll0, PyData.depth, PyData.depthAll])]
  simp [PyData.eqv, PyData.eqvAll]
theorem eq_nil2 (a b : Int) : cmpOp .eq (.tuple [.int a, .int b]) (.tuple []) = some false := by
  show (if (SeqAt.shaped (.tuple [.int a, .int b]) && SeqAt.shaped (.tuple [])) = true then some (PyData.eqv (.tuple [.int a, .int b]) (.tuple [])) else none) = _
  rw [if_pos (by simp [SeqAt.shaped, PyData.canLay0, PyData.canLayAll0, PyData.depth, PyData.depthAll])]
  simp [PyData.eqv, PyData.eqvAll]
section
variable (n : Nat)
theorem low_one (b : Int) : runF prog consts 200000 (n + 1) 4 [.val (.int 1), .val (.int b)] = .ok (.tuple [.int 1, .int b], .val) [.emp, .emp] := by
  have d1 : ∀ x : Int, binOp .fdiv (.int x) (.int 1) = some (.int x) := fun x => by rw [b_div _ _ (by decide), Int.ediv_one]
  rw [runF_s (h := rfl) (l := rfl)]
  simp [fd_lowest, b_lowest, gcd_one, putS, d1, le_lim]
theorem low_oneR (b : Int) : runF prog consts 200000 (n + 1) 4 [.val (.int b), .val (.int 1)] = .ok (.tuple [.int b, .int 1], .val) [.emp, .emp] := by
  have d1 : ∀ x : Int, binOp .fdiv (.int x) (.int 1) = some (.int x) := fun x => by rw [b_div _ _ (by decide), Int.ediv_one]
  rw [runF_s (h := rfl) (l := rfl)]
  simp [fd_lowest, b_lowest, gcd_oneR, putS, d1, le_lim]
theorem low_two (S : Int) : runF prog consts 200000 (n + 1) 4 [.val (.int 2), .val (.int S)] = .ok (.tuple [.int (2 / g2 S), .int (S / g2 S)], .val) [.emp, .emp] := by
  have d1 : ∀ x : Int, binOp .fdiv (.int x) (.int (g2 S)) = some (.int (x / g2 S)) := fun x => b_div _ _ (g2_pos S)
  rw [runF_s (h := rfl) (l := rfl)]
  simp [fd_lowest, b_lowest, gcd_two, putS, d1, le_lim]
theorem low_twoR (S : Int) : runF prog consts 200000 (n + 1) 4 [.val (.int S), .val (.int 2)] = .ok (.tuple [.int (S / g2 S), .int (2 / g2 S)], .val) [.emp, .emp] := by
  have d1 : ∀ x : Int, binOp .fdiv (.int x) (.int (g2 S)) = some (.int (x / g2 S)) := fun x => b_div _ _ (g2_pos S)
  rw [runF_s (h := rfl) (l := rfl)]
  simp [fd_lowest, b_lowest, gcd_twoR, putS, d1, le_lim]
theorem ll_one0 (L : Nat) (S : Int) : runF prog consts (L + 3) (n + 1) 88 [.val (.int S), .val (.int 1)] = .ok (.tuple [.int S, .int 1], .val) [.emp, .emp] := by
  have d1 : ∀ x : Int, binOp .fdiv (.int x) (.int 1) = some (.int x) := fun x => by rw [b_div _ _ (by decide), Int.ediv_one]
  have m1 : ∀ x : Int, binOp .mod (.int x) (.int 1) = some (.int 0) := fun x => by rw [b_mod _ _ (by decide), Int.emod_one]
  rw [runF_s (h := rfl) (l := rfl)]
  simp [fd_law_lowest, b_law_lowest, putS, whilW_s, d1, m1, le_lim]
theorem ll_two0 (L : Nat) (S : Int) : runF prog consts (L + 3) (n + 1) 88 [.val (.int S), .val (.int 2)] = .ok (.tuple [.int (S / g2 S), .int (2 / g2 S)], .val) [.emp, .emp] := by
  have d1 : ∀ x : Int, binOp .fdiv (.int x) (.int 1) = some (.int x) := fun x => by rw [b_div _ _ (by decide), Int.ediv_one]
  have m1 : ∀ x : Int, binOp .mod (.int x) (.int 1) = some (.int 0) := fun x => by rw [b_mod _ _ (by decide), Int.emod_one]
  have d2 : ∀ x : Int, binOp .fdiv (.int x) (.int 2) = some (.int (x / 2)) := fun x => b_div _ _ (by decide)
  have m2 : ∀ x : Int, binOp .mod (.int x) (.int 2) = some (.int (x % 2)) := fun x => b_mod _ _ (by decide)
  rw [runF_s (h := rfl) (l := rfl)]
  unfold g2
  by_cases h : S % 2 = 0
  · simp [fd_law_lowest, b_law_lowest, putS, whilW_s, d2, m2, h, le_lim]
  · have h1 : S % 2 = 1 := by omega
    simp [fd_law_lowest, b_law_lowest, putS, whilW_s, d1, m1, d2, m2, h1, le_lim]
theorem ll_one (S : Int) : runF prog consts 200000 (n + 1) 88 [.val (.int S), .val (.int 1)] = .ok (.tuple [.int S, .int 1], .val) [.emp, .emp] := ll_one0 n 199997 S
theorem ll_two (S : Int) : runF prog consts 200000 (n + 1) 88 [.val (.int S), .val (.int 2)] = .ok (.tuple [.int (S / g2 S), .int (2 / g2 S)], .val) [.emp, .emp] := ll_two0 n 199997 S
theorem row7 (a : Int) (h1 : 1 ≤ a) (h2 : a ≤ 99) : runF prog consts 200000 (n + 4) 7 [.val (.tuple [.int a])] = .ok (.tuple [.int a], .val) [.emp] := by
  have h6 : runF prog consts 200000 (n + 3) 6 [.val (.tuple [.int a])] = .ok (.none, .val) [.emp] := by
    have i1 : inR 1 = true := by decide
    rw [runF_s (h := rfl) (l := rfl)]
    simp [fd_wrong_row, b_wrong_row, tup_v, i1, rangeL, le_lim, forL, forF, it0, btw_i, h1, h2]
  rw [runF_s (h := rfl) (l := rfl)]
  simp [fd_made_row, b_made_row, h6, putS]
theorem row7b (a b : Int) (h1 : 1 ≤ a) (h2 : a ≤ 99) (h3 : 1 ≤ b) (h4 : b ≤ 99) : runF prog consts 200000 (n + 4) 7 [.val (.tuple [.int a, .int b])] = .ok (.tuple [.int a, .int b], .val) [.emp] := by
  have h6 : runF prog consts 200000 (n + 3) 6 [.val (.tuple [.int a, .int b])] = .ok (.none, .val) [.emp] := by
    have i1 : inR 2 = true := by decide
    rw [runF_s (h := rfl) (l := rfl)]
    simp [fd_wrong_row, b_wrong_row, tup_v, i1, rangeL, le_lim, forL, forF, it0, it1, btw_i, h1, h2, h3, h4]
  rw [runF_s (h := rfl) (l := rfl)]
  simp [fd_made_row, b_made_row, h6, putS]
theorem dens1 (a : Int) (h1 : 1 ≤ a) (h2 : a ≤ 99) : runF prog consts 200000 (n + 5) 10 [.val (.tuple [.int a])] = .ok (.tuple [.int 1, .int a], .val) [.emp] ∧
    runF prog consts 200000 (n + 5) 8 [.val (.tuple [.int a])] = .ok (.tuple [.int a, .int 1], .val) [.emp] := by
  have su := sum_T1 a []
  simp only [List.map_nil, List.sum_nil, Int.add_zero] at su
  have h9 : runF prog consts 200000 (n + 4) 9 [.val (.tuple [.int a])] = .ok (.tuple [.int 1, .int a], .val) [.emp] := by
    rw [runF_s (h := rfl) (l := rfl)]
    simp [fd_density_of, b_density_of, eq_nil1, su, low_one, le_lim]
  refine ⟨?_, ?_⟩ <;> rw [runF_s (h := rfl) (l := rfl)] <;> simp [fd_density, b_density, fd_mean, b_mean, row7 n a h1 h2, h9, eq_nil1, su, low_oneR, le_lim]
theorem dens2 (a b S : Int) (h1 : 1 ≤ a) (h2 : a ≤ 99) (h3 : 1 ≤ b) (h4 : b ≤ 99) (hS : a + b = S) : runF prog consts 200000 (n + 5) 10 [.val (.tuple [.int a, .int b])] = .ok (.tuple [.int (2 / g2 S), .int (S / g2 S)], .val) [.emp] ∧
    runF prog consts 200000 (n + 5) 8 [.val (.tuple [.int a, .int b])] = .ok (.tuple [.int (S / g2 S), .int (2 / g2 S)], .val) [.emp] := by
  have su := sum_T1 a [b]
  simp only [List.map_nil, List.map_cons, List.sum_cons, List.sum_nil, Int.add_zero, hS] at su
  have h9 : runF prog consts 200000 (n + 4) 9 [.val (.tuple [.int a, .int b])] = .ok (.tuple [.int (2 / g2 S), .int (S / g2 S)], .val) [.emp] := by
    rw [runF_s (h := rfl) (l := rfl)]
    simp [fd_density_of, b_density_of, eq_nil2, su, low_two, le_lim]
  refine ⟨?_, ?_⟩ <;> rw [runF_s (h := rfl) (l := rfl)] <;> simp [fd_density, b_density, fd_mean, b_mean, row7b n a b h1 h2 h3 h4, h9, eq_nil2, su, low_twoR, le_lim]
end
end TI

set_option Elab.async false
set_option autoImplicit false
set_option maxRecDepth 100000
set_option maxHeartbeats 1000000
set_option linter.all false
/-! W26: _law_plan_right. -/
namespace TI
open PySem
/-- the price; what it goes to -/
def prc (q : Nat) (k s : Int) : Int × Int := if q < 2 then (0, 1) else (2 / g2 (k + s), (k + s) / g2 (k + s))
def farq (q : Nat) : Int × Int := if q < 2 then (0, 1) else (2 * (q : Int) - 3, (q : Int) - 1)
def pairD (x : Int × Int) : D := .tuple [.int x.1, .int x.2]
section
variable (n : Nat)
theorem price30 {q : Nat} {k s : Int} (p : Pq q k s) : runF prog consts 200000 (n + 4) 30 [.val (.int k), .val (.int q)] = .ok (pairD (prc q k s), .val) [.emp, .emp] := by
  have q6 := p.q6
  have h5 := k_ok n 200000 k p.k0 p.k6
  have h3 := many_ok n 200000 q 0 30 (by omega) (by omega)
  have h29 : runF prog consts 200000 (n + 3) 29 [.val (.int k), .val (.int q)] = .ok (pairD (prc q k s), .val) [.emp, .emp] := by
    rw [runF_s (h := rfl) (l := rfl)]
    unfold prc pairD
    by_cases h2 : q < 2
    · have h3 : (q : Int) < 2 := by omega
      simp [fd_price_of, b_price_of, h2, h3, le_lim]
    · have h3 : ¬ (q : Int) < 2 := by omega
      have m1 : binOp .mul (.int 2) (.int q) = some (.int (2 * (q : Int))) := b_mulL _ _ (by decide)
      have dv : binOp .fdiv (.int k) (.int (2 * (q : Int) - 3)) = some (.int s) := by rw [b_div _ _ ⟨by omega, by omega⟩, p.hs (by omega)]
      simp [fd_price_of, b_price_of, h2, h3, le_lim, m1, dv, low_two]
  rw [runF_s (h := rfl) (l := rfl)]
  simp [fd_price, b_price, h5, h3, h29]
theorem long31 (q : Nat) (q6 : q < 6) : runF prog consts 200000 (n + 4) 31 [.val (.int q)] = .ok (pairD (farq q), .val) [.emp] := by
  match q, q6 with
  | 0, _ => kernel_rfl
  | 1, _ => kernel_rfl
  | 2, _ => kernel_rfl
  | 3, _ => kernel_rfl
  | 4, _ => kernel_rfl
  | 5, _ => kernel_rfl
  | z + 6, h => exact absurd h (by omega)
theorem price83 {q : Nat} {k s : Int} (p : Pq q k s) : runF prog consts 200000 (n + 1) 83 [.val (.int k), .val (.int q)] = .ok (pairD (prc q k s), .val) [.emp, .emp] := by
  have q6 := p.q6
  rw [runF_s (h := rfl) (l := rfl)]
  unfold prc pairD
  by_cases h2 : q < 2
  · have h3 : (q : Int) < 2 := by omega
    simp [fd_law_price_by, b_law_price_by, h2, h3, le_lim]
  · have h3 : ¬ (q : Int) < 2 := by omega
    have m1 : binOp .mul (.int 2) (.int q) = some (.int (2 * (q : Int))) := b_mulL _ _ (by decide)
    have dv : binOp .fdiv (.int k) (.int (2 * (q : Int) - 3)) = some (.int s) := by rw [b_div _ _ ⟨by omega, by omega⟩, p.hs (by omega)]
    have d2 : ∀ x : Int, binOp .fdiv (.int x) (.int 2) = some (.int (x / 2)) := fun x => b_div _ _ (by decide)
    have m2 : ∀ x : Int, binOp .mod (.int x) (.int 2) = some (.int (x % 2)) := fun x => b_mod _ _ (by decide)
    unfold g2
    by_cases h : (k + s) % 2 = 0
    · simp [fd_law_price_by, b_law_price_by, h2, h3, le_lim, m1, dv, d2, m2, putS, h]
    · simp [fd_law_price_by, b_law_price_by, h2, h3, le_lim, m1, dv, d2, m2, putS, h]
theorem plan37 {q : Nat} {k s : Int} (p : Pq q k s) : runF prog consts 200000 (n + 8) 37 [.val (.int k), .val (.int q)] = .ok (.tuple (ents q k s 1 (q - 1)), .val) [.emp, .emp] := by
  have h35 := plan35 (n + 3) p
  have h36 := plan_is n p
  rw [runF_s (h := rfl) (l := rfl)]
  simp [fd_plan, b_plan, h35, h36]
theorem gaps_76x {q : Nat} {k s : Int} (p : Pq q k s) (room : Nat) (h1 : 1 ≤ room) (h2 : room < q) : ∃ rg : D, runF prog consts 200000 (n + 3) 76 [.val (.int k), .val (.int q), .val (.int room)] =
    .ok (.tuple [.int (rmq q k s room).a, .tuple (.int (rmq q k s room).u0 :: (rmq q k s room).rest.map .int), rg], .val) [.emp, .emp, .emp] := ⟨_, gaps_76 n p room h1 h2⟩
theorem by_loop {q : Nat} {k s : Int} (p : Pq q k s) : ∀ (m i : Nat) (ds : List D) (s3 s4 s5 s6 : Slot), 1 ≤ i → i + m = q → ds.length + m ≤ 100 → okPut (some s3) = true → okPut (some s4) = true → okPut (some s5) = true → okPut (some s6) = true →
    ∃ s3' s4' s5' s6', forL (forF (runF prog consts 200000 (n + 3)) consts 200000 (.var 3) (.cons (.unpack (.tup (.cons (.var 4) (.cons (.var 5) (.cons (.var 6) .nil)))) (.call 76 (.cons (.var 0) (.cons (.var 1) (.cons (.var 3) .nil))))) (.cons (.app 2 (.ite (.cmp .eq (.var 3) (.lit (.int 1))) (.tup (.cons (.lit (.str "middle")) (.cons (.var 4) (.cons (.ix (.var 5) (.lit (.int 0))) .nil)))) (.tup (.cons (.lit (.str "side")) (.cons (.var 4) (.cons (.ix (.var 5) (.lit (.int 0))) .nil)))))) .nil))) (rangeL i m)
      [.val (.int k), .val (.int q), .own ds, s3, s4, s5, s6] = .next [.val (.int k), .val (.int q), .own (ds ++ ents q k s i m), s3', s4', s5', s6']
  | 0, i, ds, s3, s4, s5, s6, _, _, _, _, _, _, _ => ⟨s3, s4, s5, s6, by simp [ents, rangeL, forL]⟩
  | m + 1, i, ds, s3, s4, s5, s6, i1, e, dl, h3, h4, h5, h6 => by
    obtain ⟨rg, h76⟩ := gaps_76x n p i i1 (by omega)
    have e3 : ((i + 1 : Nat) : Int) = (i : Int) + 1 := by omega
    obtain ⟨s3', s4', s5', s6', ih⟩ := by_loop p m (i + 1) (ds ++ [entq q k s i]) (.val (.int i)) (.val (.int (rmq q k s i).a)) (.val (.tuple (.int (rmq q k s i).u0 :: (rmq q k s i).rest.map .int))) (.val rg) (by omega) (by omega) (by simp; omega) rfl rfl rfl rfl
    refine ⟨s3', s4', s5', s6', ?_⟩
    rw [e3, List.append_assoc] at ih
    have al : ds.length < lim := lt_lim (by omega)
    rw [rangeL, forL, ents, show entq q k s i :: ents q k s (i + 1) m = [entq q k s i] ++ ents q k s (i + 1) m from rfl, ← ih]
    by_cases h : i = 1
    · have en : entq q k s i = .tuple [.str "middle", .int (rmq q k s i).a, .int (rmq q k s i).u0] := if_pos h
      rw [en] at ih ⊢
      generalize rmq q k s i = r at *
      subst h
      simp only [show ((1 : Nat) : Int) = 1 from rfl] at h76 ih ⊢
      simp [-bt_var, bt_b, putS_b, h3, h4, h5, h6, forF, h76, le_lim, it0, isHeld, modL, al]
    · have h' : ¬ (i : Int) = 1 := by omega
      have en : entq q k s i = .tuple [.str "side", .int (rmq q k s i).a, .int (rmq q k s i).u0] := if_neg h
      rw [en] at ih ⊢
      generalize rmq q k s i = r at *
      simp [-bt_var, bt_b, putS_b, h3, h4, h5, h6, forF, h76, h, h', le_lim, it0, isHeld, modL, al]
theorem by84 {q : Nat} {k s : Int} (p : Pq q k s) : runF prog consts 200000 (n + 4) 84 [.val (.int k), .val (.int q)] = .ok (.tuple (ents q k s 1 (q - 1)), .val) [.emp, .emp] := by
  have q6 := p.q6
  have i1 : inR (q : Int) = true := inR_of (by omega) (by omega)
  have i2 : inR 1 = true := by decide
  have e2 : q - 1 ≤ lim := le_lim (by omega)
  have tu : ∀ xs : List D, biOp .tuple1 [.list xs] = some (.tuple xs, .val) := fun _ => rfl
  rw [runF_s (h := rfl) (l := rfl)]
  by_cases h : 1 ≤ q
  · obtain ⟨a3, a4, a5, a6, hl⟩ := by_loop n p (q - 1) 1 [] .emp .emp .emp .emp (by omega) (by omega) (by simp; omega) rfl rfl rfl rfl
    have e : ((q : Int) - 1).toNat = q - 1 := by omega
    simp only [show ((1 : Nat) : Int) = 1 from rfl, List.nil_append] at hl
    simp [fd_law_plan_by, b_law_plan_by, putS, i1, i2, e, rangeL_length, e2, le_lim, hl, tu]
  · have e : q - 1 = 0 := by omega
    have e3 : ((q : Int) - 1).toNat = 0 := by omega
    simp [fd_law_plan_by, b_law_plan_by, putS, i1, i2, e3, rangeL, le_lim, forL, tu, e, ents]
end
end TI

set_option Elab.async false
set_option autoImplicit false
set_option maxRecDepth 100000
set_option maxHeartbeats 1000000
set_option linter.all false
/-! W27: _law_plan_right. -/
namespace TI
open PySem
theorem so_mid : PyData.strOk (Str.ofString "middle") = true := by kernel_rfl
theorem so_side : PyData.strOk (Str.ofString "side") = true := by kernel_rfl
theorem side_ne : cmpOp .eq (.str "side") (.str "middle") = some false := rfl
theorem ents_okd (q : Nat) (k s : Int) : ∀ m i, PyData.canLayAll0 (ents q k s i m) = true ∧ PyData.depthAll (ents q k s i m) ≤ 1 ∧ sz.szs (ents q k s i m) ≤ 4 * m
  | 0, i => ⟨rfl, by simp [ents, PyData.depthAll], by simp [ents, sz.szs]⟩
  | m + 1, i => by
    obtain ⟨h1, h2, h3⟩ := ents_okd q k s m (i + 1)
    have e : PyData.canLay0 (entq q k s i) = true ∧ (entq q k s i).depth ≤ 1 ∧ sz (entq q k s i) = 4 := by
      unfold entq
      split <;> simp [PyData.canLay0, PyData.canLayAll0, so_mid, so_side, PyData.depth, PyData.depthAll, sz, sz.szs]
    refine ⟨by simp [ents, PyData.canLayAll0, e.1, h1], ?_, by simp [ents, sz.szs, e.2.2]; omega⟩
    simp only [ents, PyData.depthAll]
    omega
def planB : IS := match b_law_plan_right with
  | .cons _ (.cons _ (.cons _ (.cons _ (.cons (.forr _ _ b) _)))) => b
  | _ => .nil
section
variable (n : Nat)
theorem same_pairs (a b : Int) : runF prog consts 200000 (n + 2) 68 [.val (.tuple [.tuple [.int a, .int b], .tuple [.int b, .int a]]), .val (.tuple [.tuple [.int a, .int b], .tuple [.int b, .int a]])] = .ok (.bool true, .val) [.emp, .emp] := by
  refine same_is n 200000 _ ⟨by simp [PyData.canLay0, PyData.canLayAll0], ?_⟩ ?_ ?_
  · simp [PyData.depth, PyData.depthAll]
  · simp [sz, sz.szs]
  · simp [sz, sz.szs]
theorem same_plan (q : Nat) (q6 : q < 6) (k s a b c d : Int) : runF prog consts 200000 (n + 2) 68 [.val (.tuple [.tuple (ents q k s 1 (q - 1)), .tuple [.int a, .int b], .tuple [.int c, .int d]]), .val (.tuple [.tuple (ents q k s 1 (q - 1)), .tuple [.int a, .int b], .tuple [.int c, .int d]])] = .ok (.bool true, .val) [.emp, .emp] := by
  obtain ⟨h1, h2, h3⟩ := ents_okd q k s (q - 1) 1
  refine same_is n 200000 _ ⟨by simp [PyData.canLay0, PyData.canLayAll0, h1], ?_⟩ ?_ ?_
  · simp [PyData.depth, PyData.depthAll]; omega
  · simp [sz, sz.szs]; omega
  · simp [sz, sz.szs]; omega
theorem rmq_rows {q : Nat} {k s : Int} (p : Pq q k s) (room : Nat) (h1 : 1 ≤ room) (h2 : room < q) : 1 ≤ (rmq q k s room).u0 ∧ (rmq q k s room).u0 ≤ 99 ∧ (room = 1 → (rmq q k s room).u0 = k - ((q : Int) - 2) * s) ∧
    (room ≠ 1 → 1 ≤ (rmq q k s room).a ∧ (rmq q k s room).a ≤ 99 ∧ (rmq q k s room).u0 + (rmq q k s room).a = k + s) := by
  obtain ⟨s1, s2, s3, s4⟩ := p.share (by omega)
  have q6 := p.q6
  have k6 := p.k6
  have e : q = 2 ∨ q = 3 ∨ q = 4 ∨ q = 5 := by omega
  have f : room = 1 ∨ room = 2 ∨ room = 3 ∨ room = 4 := by omega
  rcases e with rfl | rfl | rfl | rfl <;> rcases f with rfl | rfl | rfl | rfl <;> first | (exfalso; omega) | (simp [cq] at s1 s3; simp [rmq, cq, Rm.P, Rm.rim] <;> omega)
theorem mid_step {q : Nat} {k s : Int} (p : Pq q k s) (h2 : 2 ≤ q) (s2 s3 s4 s6 s7 s8 s9 : Slot) (h6 : okPut (some s6) = true) (h7 : okPut (some s7) = true) (h8 : okPut (some s8) = true) (h9 : okPut (some s9) = true) :
    ∃ s6' s7' s8' s9', okPut (some s6') = true ∧ okPut (some s7') = true ∧ okPut (some s8') = true ∧ okPut (some s9') = true ∧ forF (runF prog consts 200000 (n + 10)) consts 200000 (.var 6) planB (entq q k s 1) [.val (.int k), .val (.int q), s2, s3, s4, .val (.tuple [.int 0, .int 1]), s6, s7, s8, s9] =
      .next [.val (.int k), .val (.int q), s2, s3, s4, .val (.tuple [.int 1, .int (k - ((q : Int) - 2) * s)]), s6', s7', s8', s9'] := by
  obtain ⟨r1, r2, r3, _⟩ := rmq_rows p 1 (by omega) (by omega)
  have r3 := r3 rfl
  have en : entq q k s 1 = .tuple [.str "middle", .int (rmq q k s 1).a, .int (rmq q k s 1).u0] := if_pos rfl
  rw [en, r3]
  rw [r3] at r1 r2
  generalize (rmq q k s 1).a = a at *
  generalize k - ((q : Int) - 2) * s = u at *
  have su := sum_T1 u []
  simp only [List.map_nil, List.sum_nil, Int.add_zero] at su
  obtain ⟨d1, d2⟩ := dens1 (n + 5) u r1 r2
  have m1 : ∀ x : Int, binOp .mul (.int 1) (.int x) = some (.int (1 * x)) := fun x => b_mulL _ _ (by decide)
  have m0 : ∀ x : Int, binOp .mul (.int 0) (.int x) = some (.int (0 * x)) := fun x => b_mulL _ _ (by decide)
  have sp := same_pairs (n + 8) 1 u
  refine ⟨.val (.tuple [.str "middle", .int a, .int u]), .val (.tuple [.int u]), .val (.int u), .val (.int 1), rfl, rfl, rfl, rfl, ?_⟩
  simp [-bt_var, bt_b, putS_b, h6, h7, h8, h9, forF, planB, b_law_plan_right, it0, it1, it2, c_eqs, le_lim, su, ll_one, d1, d2, sp, m1, m0]
theorem side_step {q : Nat} {k s : Int} (p : Pq q k s) (room : Nat) (h1 : 2 ≤ room) (h2 : room < q) (gd gc : Int) (hg : gd = 1 ∨ gd = 2) (s2 s3 s4 s6 s7 s8 s9 : Slot) (h6 : okPut (some s6) = true) (h7 : okPut (some s7) = true) (h8 : okPut (some s8) = true) (h9 : okPut (some s9) = true) (G : Int × Int)
    (hG : (if gd * ((k + s) / g2 (k + s)) < 2 / g2 (k + s) * gc then (2 / g2 (k + s), (k + s) / g2 (k + s)) else (gd, gc)) = G) :
    ∃ s6' s7' s8' s9', okPut (some s6') = true ∧ okPut (some s7') = true ∧ okPut (some s8') = true ∧ okPut (some s9') = true ∧ forF (runF prog consts 200000 (n + 10)) consts 200000 (.var 6) planB (entq q k s room) [.val (.int k), .val (.int q), s2, s3, s4, .val (.tuple [.int gd, .int gc]), s6, s7, s8, s9] =
      .next [.val (.int k), .val (.int q), s2, s3, s4, .val (.tuple [.int G.1, .int G.2]), s6', s7', s8', s9'] := by
  obtain ⟨r1, r2, _, r4⟩ := rmq_rows p room (by omega) (by omega)
  obtain ⟨a1, a2, a3⟩ := r4 (by omega)
  have en : entq q k s room = .tuple [.str "side", .int (rmq q k s room).a, .int (rmq q k s room).u0] := if_neg (by omega)
  rw [en]
  generalize (rmq q k s room).a = a at *
  generalize (rmq q k s room).u0 = u at *
  have su := sum_T1 u [a]
  simp only [List.map_nil, List.map_cons, List.sum_cons, List.sum_nil, Int.add_zero, a3] at su
  obtain ⟨d1, d2⟩ := dens2 (n + 5) u a (k + s) r1 r2 a1 a2 a3
  have l2 := ll_two (n + 9) (k + s)
  have gs : small (2 / g2 (k + s)) = true := by unfold g2; split <;> decide
  have gs2 : small gd = true := by rcases hg with rfl | rfl <;> decide
  generalize k + s = S at *
  have m1 : ∀ x : Int, binOp .mul (.int (2 / g2 S)) (.int x) = some (.int ((2 / g2 S) * x)) := fun x => b_mulL _ _ gs
  have m0 : ∀ x : Int, binOp .mul (.int gd) (.int x) = some (.int (gd * x)) := fun x => b_mulL _ _ gs2
  have sp := same_pairs (n + 8) (2 / g2 S) (S / g2 S)
  generalize 2 / g2 S = X at *
  generalize S / g2 S = Y at *
  refine ⟨.val (.tuple [.str "side", .int a, .int u]), .val (.tuple [.int u, .int a]), .val (.int Y), .val (.int X), rfl, rfl, rfl, rfl, ?_⟩
  subst hG
  by_cases c : gd * Y < X * gc
  · simp [-bt_var, bt_b, putS_b, h6, h7, h8, h9, forF, planB, b_law_plan_right, it0, it1, it2, side_ne, le_lim, su, l2, d1, d2, sp, m1, m0, c]
  · simp [-bt_var, bt_b, putS_b, h6, h7, h8, h9, forF, planB, b_law_plan_right, it0, it1, it2, side_ne, le_lim, su, l2, d1, d2, sp, m1, m0, c]
theorem sides_loop {q : Nat} {k s : Int} (p : Pq q k s) (s2 s3 s4 : Slot) : ∀ (m i : Nat) (s6 s7 s8 s9 : Slot), 2 ≤ i → i + m = q → okPut (some s6) = true → okPut (some s7) = true → okPut (some s8) = true → okPut (some s9) = true →
    ∃ s6' s7' s8' s9', forL (forF (runF prog consts 200000 (n + 10)) consts 200000 (.var 6) planB) (ents q k s i m) [.val (.int k), .val (.int q), s2, s3, s4, .val (.tuple [.int (2 / g2 (k + s)), .int ((k + s) / g2 (k + s))]), s6, s7, s8, s9] =
      .next [.val (.int k), .val (.int q), s2, s3, s4, .val (.tuple [.int (2 / g2 (k + s)), .int ((k + s) / g2 (k + s))]), s6', s7', s8', s9']
  | 0, i, s6, s7, s8, s9, _, _, _, _, _, _ => ⟨s6, s7, s8, s9, rfl⟩
  | m + 1, i, s6, s7, s8, s9, i2, e, h6, h7, h8, h9 => by
    have hg : 2 / g2 (k + s) = 1 ∨ 2 / g2 (k + s) = 2 := by unfold g2; split <;> simp
    obtain ⟨a6, a7, a8, a9, b6, b7, b8, b9, st⟩ := side_step n p i i2 (by omega) _ ((k + s) / g2 (k + s)) hg s2 s3 s4 s6 s7 s8 s9 h6 h7 h8 h9 (2 / g2 (k + s), (k + s) / g2 (k + s)) (by rw [if_neg (by omega)])
    obtain ⟨c6, c7, c8, c9, ih⟩ := sides_loop p s2 s3 s4 m (i + 1) a6 a7 a8 a9 (by omega) (by omega) b6 b7 b8 b9
    refine ⟨c6, c7, c8, c9, ?_⟩
    rw [ents, forL, st]
    exact ih
theorem plan_loop {q : Nat} {k s : Int} (p : Pq q k s) (s2 s3 s4 : Slot) : ∃ s6' s7' s8' s9', forL (forF (runF prog consts 200000 (n + 10)) consts 200000 (.var 6) planB) (ents q k s 1 (q - 1)) [.val (.int k), .val (.int q), s2, s3, s4, .val (.tuple [.int 0, .int 1]), .emp, .emp, .emp, .emp] =
      .next [.val (.int k), .val (.int q), s2, s3, s4, .val (pairD (prc q k s)), s6', s7', s8', s9'] := by
  by_cases h2 : q < 2
  · rw [show q - 1 = 0 by omega]
    unfold prc pairD
    rw [if_pos h2]
    exact ⟨_, _, _, _, rfl⟩
  · obtain ⟨s1, s2', s3', s4'⟩ := p.share (by omega)
    obtain ⟨a6, a7, a8, a9, b6, b7, b8, b9, st⟩ := mid_step n p (by omega) s2 s3 s4 .emp .emp .emp .emp rfl rfl rfl rfl
    have e : q - 1 = (q - 2) + 1 := by omega
    rw [e, ents, forL, st]
    unfold prc pairD
    rw [if_neg h2]
    by_cases h3 : q = 2
    · subst h3
      have hs := p.hs (by omega)
      have hs : s = k := by simp at hs; omega
      subst hs
      have : (s + s) % 2 = 0 := by omega
      refine ⟨a6, a7, a8, a9, ?_⟩
      show SOut.next _ = SOut.next _
      have g : g2 (s + s) = 2 := by unfold g2; rw [if_pos this]
      rw [g]
      have : (s + s) / 2 = s := by omega
      rw [this]
      simp
    · have e2 : q - 2 = (q - 3) + 1 := by omega
      have key : (if 1 * ((k + s) / g2 (k + s)) < 2 / g2 (k + s) * (k - ((q : Int) - 2) * s) then (2 / g2 (k + s), (k + s) / g2 (k + s)) else (1, k - ((q : Int) - 2) * s)) = (2 / g2 (k + s), (k + s) / g2 (k + s)) := by
        have tw : k + s ≤ 2 * (k - ((q : Int) - 2) * s) := by
          have : (2 * (q : Int) - 3) * s = 2 * (((q : Int) - 2) * s) + s := by
            rw [show (2 * (q : Int) - 3) = 2 * ((q : Int) - 2) + 1 by omega, Int.add_mul, Int.mul_assoc, Int.one_mul]
          omega
        generalize k - ((q : Int) - 2) * s = u at *
        unfold g2
        by_cases c : (k + s) % 2 = 0
        · simp only [if_pos c]
          split
          · rfl
          · simp only [Int.reduceDiv] at *
            congr 1
            omega
        · simp only [if_neg c]
          rw [if_pos (by simp only [Int.reduceDiv]; omega)]
      obtain ⟨c6, c7, c8, c9, d6, d7, d8, d9, st2⟩ := side_step n p 2 (by omega) (by omega) 1 (k - ((q : Int) - 2) * s) (.inl rfl) s2 s3 s4 a6 a7 a8 a9 b6 b7 b8 b9 _ key
      obtain ⟨e6, e7, e8, e9, lp⟩ := sides_loop n p s2 s3 s4 (q - 3) 3 c6 c7 c8 c9 (by omega) (by omega) d6 d7 d8 d9
      refine ⟨e6, e7, e8, e9, ?_⟩
      rw [e2, ents]
      simp only [forL]
      rw [st2]
      exact lp
theorem plan_right {q : Nat} {k s : Int} (p : Pq q k s) : runF prog consts 200000 (n + 11) 87 [.val (.int k), .val (.int q)] = .ok (.bool true, .val) [.emp, .emp] := by
  have q6 := p.q6
  obtain ⟨s6, s7, s8, s9, lp⟩ := plan_loop n p (.val (.int (prc q k s).1)) (.val (.int (prc q k s).2)) (.val (pairD (farq q)))
  have h83 := price83 (n + 9) p
  have h37 := plan37 (n + 2) p
  have h30 := price30 (n + 6) p
  have h31 := long31 (n + 6) q q6
  have h84 := by84 (n + 6) p
  have sp := same_plan (n + 8) q q6 k s (prc q k s).1 (prc q k s).2 (farq q).1 (farq q).2
  have eqp := eqT2 (prc q k s).1 (prc q k s).2
  have el : (ents q k s 1 (q - 1)).length ≤ lim := le_lim (by rw [ents_len]; omega)
  unfold pairD at *
  unfold planB b_law_plan_right at lp
  generalize (prc q k s).1 = A at *
  generalize (prc q k s).2 = B at *
  rw [runF_s (h := rfl) (l := rfl)]
  by_cases h2 : q < 2
  · have h3 : (q : Int) < 2 := by omega
    have f1 : farq q = (0, 1) := if_pos h2
    rw [f1] at h31 sp lp
    simp [fd_law_plan_right, b_law_plan_right, putS, h83, h3, le_lim, h37, h30, h31, h84, sp, el, lp, eqp]
  · have h3 : ¬ (q : Int) < 2 := by omega
    have f1 : farq q = (2 * (q : Int) - 3, (q : Int) - 1) := if_neg h2
    have m2 : binOp .mul (.int 2) (.int ((q : Int) - 1)) = some (.int (2 * (q : Int) - 3 + 1)) := by rw [b_mulL _ _ (by decide)]; congr 2; omega
    have f2 : 2 * (q : Int) - 3 + 1 - 1 = 2 * (q : Int) - 3 := by omega
    rw [f1] at h31 sp lp
    simp [fd_law_plan_right, b_law_plan_right, putS, h83, h3, le_lim, h37, h30, h31, h84, sp, el, lp, eqp, m2, f2]
end
end TI

set_option Elab.async false
set_option autoImplicit false
set_option maxRecDepth 100000
set_option maxHeartbeats 1000000
set_option linter.all false
/-! W28: _law_doors_right. -/
namespace TI
open PySem
theorem so_v (d : D) : slotOf (d, .val) = .val d := by cases d <;> rfl
theorem lk3 : tnames.lookup 3 = some "BadMany" := rfl
theorem lk7 : tnames.lookup 7 = some "BadRoom" := rfl
theorem lk9 : tnames.lookup 9 = some "BadSize" := rfl
theorem so_many : PyData.strOk (Str.ofString "BadMany") = true := by kernel_rfl
theorem so_room : PyData.strOk (Str.ofString "BadRoom") = true := by kernel_rfl
theorem so_size : PyData.strOk (Str.ofString "BadSize") = true := by kernel_rfl
theorem so_0 : PyData.strOk (Str.ofString "0") = true := by kernel_rfl
section
variable (n : Nat)
theorem same_doors (room : D) (r1 : room.canLay0 = true) (r2 : room.depth = 0) (r3 : sz room = 1) (z : Int) : runF prog consts 200000 (n + 2) 68 [.val (.list [.tuple [.str "BadRoom", room], .tuple [.str "BadSize", .int z]]), .val (.list [.tuple [.str "BadRoom", room], .tuple [.str "BadSize", .int z]])] = .ok (.bool true, .val) [.emp, .emp] := by
  refine same_is n 200000 _ ⟨by simp [PyData.canLay0, PyData.canLayAll0, so_room, so_size, r1], ?_⟩ ?_ ?_
  · simp [PyData.depth, PyData.depthAll, r2]
  · simp [sz, sz.szs, r3]
  · simp [sz, sz.szs, r3]
theorem same_doors2 (y z : Int) : runF prog consts 200000 (n + 2) 68 [.val (.list [.tuple [.str "told", .int y], .tuple [.str "told", .int z]]), .val (.list [.tuple [.str "told", .int y], .tuple [.str "told", .int z]])] = .ok (.bool true, .val) [.emp, .emp] := by
  refine same_is n 200000 _ ⟨by simp [PyData.canLay0, PyData.canLayAll0, so_told], ?_⟩ ?_ ?_
  · simp [PyData.depth, PyData.depthAll]
  · simp [sz, sz.szs]
  · simp [sz, sz.szs]
theorem same_doors3 (y z : Int) : runF prog consts 200000 (n + 2) 68 [.val (.list [.tuple [.str "BadMany", .int 0], .tuple [.str "BadRoom", .int y], .tuple [.str "BadSize", .int z]]), .val (.list [.tuple [.str "BadMany", .int 0], .tuple [.str "BadRoom", .int y], .tuple [.str "BadSize", .int z]])] = .ok (.bool true, .val) [.emp, .emp] := by
  refine same_is n 200000 _ ⟨by simp [PyData.canLay0, PyData.canLayAll0, so_many, so_room, so_size], ?_⟩ ?_ ?_
  · simp [PyData.depth, PyData.depthAll]
  · simp [sz, sz.szs]
  · simp [sz, sz.szs]
theorem from56 (q l : Nat) (hq : q < 6) (h : l < 8) : runF prog consts 200000 (n + 4) 56 [.val (.int q), .val (.int l)] = .ok (.int (lo q l), .val) [.emp, .emp] := by
  rw [runF_s (h := rfl) (l := rfl)]
  simp [fd_told_from, b_told_from, many_ok n 200000 q 0 16 (by omega) (by omega), many_ok n 200000 l 0 16 (by omega) (by omega), from53 n q l hq h]
theorem short57 {q : Nat} {k s : Int} (p : Pq q k s) (l : Nat) (h : l < 8) (hk : lo q l ≤ k) : runF prog consts 200000 (n + 10) 57 [.val (.int k), .val (.int q), .val (.int l)] = .ok (.int (lst q l k s), .val) [.emp, .emp, .emp] := by
  have q6 := p.q6
  rw [runF_s (h := rfl) (l := rfl)]
  simp [fd_told_shortest, b_told_shortest, k_ok (n + 6) 200000 k p.k0 p.k6, many_ok (n + 6) 200000 q 0 5 (by omega) (by omega), many_ok (n + 6) 200000 l 0 16 (by omega) (by omega), thin55 (n + 5) q l q6 h k hk, ts54 n p l h]
theorem bad_many (bad x y : D) (hr : ∀ m, runF prog consts 200000 (m + 2) 1 [.val bad, .val (.int 1), .val (.int 16)] = .ok (.bool false, .val) [.emp, .emp, .emp]) : runF prog consts 200000 (n + 5) 52 [.val bad, .val x, .val y] = .exc 3 (.int 0) [.emp, .emp, .emp] := by
  have h3 : runF prog consts 200000 (n + 3) 3 [.val bad, .val (.int 1), .val (.int 16)] = .exc 3 (.int 0) [.emp, .emp, .emp] := by
    rw [runF_s (h := rfl) (l := rfl)]
    simp [fd_check_many, b_check_many, hr n]
  have h50 : runF prog consts 200000 (n + 4) 50 [.val bad, .val x] = .exc 3 (.int 0) [.emp, .emp] := by
    rw [runF_s (h := rfl) (l := rfl)]
    simp [fd_check_loud, b_check_loud, h3, hasIo]
  rw [runF_s (h := rfl) (l := rfl)]
  simp [fd_loud_stretch, b_loud_stretch, h50, hasIo]
theorem bad_room (l : Nat) (h1 : 1 ≤ l) (h : l < 8) (y : D) : runF prog consts 200000 (n + 5) 52 [.val (.int l), .val (.int l), .val y] = .exc 7 (.int l) [.emp, .emp, .emp] := by
  have c : ¬ ((l : Int) ≤ (l : Int) - 1) := by omega
  have h50 : runF prog consts 200000 (n + 4) 50 [.val (.int l), .val (.int l)] = .exc 7 (.int l) [.emp, .emp] := by
    rw [runF_s (h := rfl) (l := rfl)]
    simp [fd_check_loud, b_check_loud, many_ok n 200000 l 1 16 (by omega) (by omega), btw_i, c]
  rw [runF_s (h := rfl) (l := rfl)]
  simp [fd_loud_stretch, b_loud_stretch, h50, hasIo]
theorem bad_size (l : Nat) (h1 : 1 ≤ l) (h : l < 8) : runF prog consts 200000 (n + 5) 52 [.val (.int l), .val (.int 0), .val (.int ((uz l : Int) * ((uz l : Int) + 1) - 1))] = .exc 9 (.int ((uz l : Int) * ((uz l : Int) + 1))) [.emp, .emp, .emp] := by
  have c50 := chk50 n l 0 h (by omega)
  have h47 := ll47 (n + 1) l h1 h
  simp only [show ((0 : Nat) : Int) = 0 from rfl] at c50
  have hb := btw_i (n + 2) 200000 ((uz l : Int) * ((uz l : Int) + 1) - 1) ((uz l : Int) * ((uz l : Int) + 1)) 5000
  rw [show (decide ((uz l : Int) * ((uz l : Int) + 1) ≤ (uz l : Int) * ((uz l : Int) + 1) - 1) && decide ((uz l : Int) * ((uz l : Int) + 1) - 1 ≤ 5000)) = false by
    rw [Bool.and_eq_false_iff]; left; exact decide_eq_false (by omega)] at hb
  generalize (uz l : Int) * ((uz l : Int) + 1) = w at *
  rw [runF_s (h := rfl) (l := rfl)]
  simp [fd_loud_stretch, b_loud_stretch, c50, h47, hb]
/-- rooms that are none, sizes that are none -/
theorem no_room (m : Nat) (i : Nat) (d : D) (h : [PyData.int (m : Nat), .int (-1), .none, .str "0", .bool false][i]? = some d) : (∀ n, runF prog consts 200000 (n + 2) 1 [.val d, .val (.int 0), .val (.int ((m : Int) - 1))] = .ok (.bool false, .val) [.emp, .emp, .emp]) ∧ d.canLay0 = true ∧ d.depth = 0 ∧ sz d = 1 := by
  match i, h with
  | 0, h =>
    obtain rfl : PyData.int (m : Nat) = d := by simpa using h
    have c : ¬ ((m : Int) ≤ (m : Int) - 1) := by omega
    exact ⟨fun n => by rw [btw_i]; simp [c], rfl, rfl, rfl⟩
  | 1, h =>
    obtain rfl : PyData.int (-1) = d := by simpa using h
    exact ⟨fun n => by rw [btw_i]; simp, rfl, rfl, rfl⟩
  | 2, h =>
    obtain rfl : PyData.none = d := by simpa using h
    exact ⟨fun n => btw_n n 200000 _ _, rfl, rfl, rfl⟩
  | 3, h =>
    obtain rfl : PyData.str "0" = d := by simpa using h
    exact ⟨fun n => btw_s n 200000 _ _ _, so_0, rfl, rfl⟩
  | 4, h =>
    obtain rfl : PyData.bool false = d := by simpa using h
    exact ⟨fun n => btw_b n 200000 _ _ _, rfl, rfl, rfl⟩
  | i + 5, h => simp at h
theorem no_size (w : Int) (h1 : 1 ≤ w) (i : Nat) (d : D) (h : [PyData.int (w - 1), .int 0, .int (-1), .int 5001, .none, .bool true][i]? = some d) : (∀ n, runF prog consts 200000 (n + 2) 1 [.val d, .val (.int w), .val (.int 5000)] = .ok (.bool false, .val) [.emp, .emp, .emp]) := by
  match i, h with
  | 0, h =>
    obtain rfl : PyData.int (w - 1) = d := by simpa using h
    have c : ¬ (w ≤ w - 1) := by omega
    exact fun n => by rw [btw_i]; simp [c]
  | 1, h =>
    obtain rfl : PyData.int 0 = d := by simpa using h
    have c : ¬ (w ≤ 0) := by omega
    exact fun n => by rw [btw_i]; simp [c]
  | 2, h =>
    obtain rfl : PyData.int (-1) = d := by simpa using h
    have c : ¬ (w ≤ -1) := by omega
    exact fun n => by rw [btw_i]; simp [c]
  | 3, h =>
    obtain rfl : PyData.int 5001 = d := by simpa using h
    exact fun n => by rw [btw_i]; simp
  | 4, h =>
    obtain rfl : PyData.none = d := by simpa using h
    exact fun n => btw_n n 200000 _ _
  | 5, h =>
    obtain rfl : PyData.bool true = d := by simpa using h
    exact fun n => btw_b n 200000 _ _ _
  | i + 6, h => simp at h
theorem no_many (i : Nat) (d : D) (h : [PyData.int 0, .int 17, .none][i]? = some d) : (∀ n, runF prog consts 200000 (n + 2) 1 [.val d, .val (.int 1), .val (.int 16)] = .ok (.bool false, .val) [.emp, .emp, .emp]) := by
  match i, h with
  | 0, h =>
    obtain rfl : PyData.int 0 = d := by simpa using h
    exact fun n => by rw [btw_i]; simp
  | 1, h =>
    obtain rfl : PyData.int 17 = d := by simpa using h
    exact fun n => by rw [btw_i]; simp
  | 2, h =>
    obtain rfl : PyData.none = d := by simpa using h
    exact fun n => btw_n n 200000 _ _
  | i + 3, h => simp at h
theorem doors_right {m q l : Nat} {A B C : D} {P : List Int} {k s : Int} (c : Cf m q l A B C P k s) (a b : Int) (J : Jar a b) :
    ∃ a' b', Jar a' b' ∧ runF prog consts 200000 (n + 11) 89 [.io [.int a, .int b], .valy (sch m A B C P), .val (.int k), .val (.int q), .val (.int l), .val (.int (lst q l k s))] = .ok (.bool true, .val) [.io [.int a', .int b'], .emp, .emp, .emp, .emp, .emp] := by
  have q6 := c.pq.q6
  have l8 := c.l8
  have w1 : 1 ≤ lst q l k s := by
    have := lst_ge q l k s
    have := shq_ge q k s
    have := c.pq.k0
    omega
  obtain ⟨i1, a1, b1, d1, J1, e1, r1⟩ := one_is (n + 8) 200000 a b J [.int (lst q l k s - 1), .int 0, .int (-1), .int 5001, .none, .bool true] (by simp) (by simp)
  obtain ⟨i2, a2, b2, d2, J2, e2, r2⟩ := one_is (n + 8) 200000 a1 b1 J1 [.int m, .int (-1), .none, .str "0", .bool false] (by simp) (by simp)
  have s1 := no_size _ w1 i1 d1 e1
  obtain ⟨s2, x1, x2, x3⟩ := no_room m i2 d2 e2
  have t1 := told_bad n c d2 d1 (s2 (n + 7))
  have t2 := told_bad2 n c d1 (s1 (n + 7))
  have y1 := same_doors (n + 8) d2 x1 x2 x3 (lst q l k s)
  have y2 := same_doors2 (n + 8) (lo q l) (lst q l k s)
  have f1 := from56 (n + 6) q l q6 l8
  have f2 := short57 n c.pq l l8 c.lk
  have f3 := from75 (n + 6) q l q6 l8
  by_cases l0 : l = 0
  · subst l0
    refine ⟨a2, b2, J2, ?_⟩
    generalize lst q 0 k s = w at *
    rw [runF_s (h := rfl) (l := rfl)]
    unfold sch at *
    simp only [show ((0 : Nat) : Int) = 0 from rfl] at *
    simp [fd_law_doors_right, b_law_doors_right, hasIo, putS, le_lim, lt_lim, isHeld, ioIn, r1, r2, it0, it1, so_v, t1, t2, lk7, lk9, modL, y1, f1, f2, f3, y2]
  · obtain ⟨i3, a3, b3, d3, J3, e3, r3⟩ := one_is (n + 8) 200000 a2 b2 J2 [.int 0, .int 17, .none] (by simp) (by simp)
    have s3 := no_many i3 d3 e3
    have g1 := bad_many (n + 5) d3 (.int 9) (.int 0) s3
    have g2 := bad_room (n + 5) l (by omega) l8 (.int 0)
    have g3 := bad_size (n + 5) l (by omega) l8
    have h73 := usz_73 (n + 8) l (by omega) l8
    have mu := mulu l
    have y3 := same_doors3 (n + 8) l ((uz l : Int) * ((uz l : Int) + 1))
    have l1 : ¬ (l : Int) = 0 := by omega
    refine ⟨a3, b3, J3, ?_⟩
    generalize lst q l k s = w at *
    generalize (uz l : Int) * ((uz l : Int) + 1) = v at *
    rw [runF_s (h := rfl) (l := rfl)]
    unfold sch at *
    simp [fd_law_doors_right, b_law_doors_right, hasIo, putS, le_lim, lt_lim, isHeld, ioIn, r1, r2, r3, it0, it1, so_v, t1, t2, lk3, lk7, lk9, modL, y1, f1, f2, f3, y2, l0, l1, g1, g2, g3, h73, mu, y3]
end
end TI

set_option Elab.async false
set_option autoImplicit false
set_option maxRecDepth 100000
set_option maxHeartbeats 1000000
set_option linter.all false
/-! W29: what a turn of the law draws. -/
namespace TI
open PySem
theorem insW_perm (a : Int) : ∀ l : List Int, (ins a l).Perm (a :: l)
  | [] => List.Perm.refl _
  | b :: r => by
    rw [ins]
    split
    · exact List.Perm.refl _
    · exact (List.Perm.cons b (insW_perm a r)).trans (List.Perm.swap a b r)
theorem isortW_perm : ∀ l : List Int, (isort l).Perm l
  | [] => List.Perm.refl _
  | a :: r => (insW_perm a (isort r)).trans (List.Perm.cons a (isortW_perm r))
theorem ins_sorted (a : Int) : ∀ l : List Int, l.Pairwise (· ≤ ·) → (ins a l).Pairwise (· ≤ ·)
  | [], _ => by simp [ins]
  | b :: r, h => by
    rw [ins]
    obtain ⟨h1, h2⟩ := List.pairwise_cons.mp h
    split
    · rename_i c
      refine List.pairwise_cons.mpr ⟨fun x hx => ?_, h⟩
      rcases List.mem_cons.mp hx with rfl | hx
      · exact c
      · exact Int.le_trans c (h1 x hx)
    · rename_i c
      refine List.pairwise_cons.mpr ⟨fun x hx => ?_, ins_sorted a r h2⟩
      rcases List.mem_cons.mp ((insW_perm a r).mem_iff.mp hx) with rfl | hx
      · omega
      · exact h1 x hx
theorem isort_sorted : ∀ l : List Int, (isort l).Pairwise (· ≤ ·)
  | [] => List.Pairwise.nil
  | a :: r => ins_sorted a _ (isort_sorted r)
theorem pls_of (zs : List Int) (m q : Nat) (h : zs.Perm (rng m)) (hq : q ≤ m) : Pls (isort (zs.take q)) m q := by
  have zl : zs.length = m := by rw [h.length_eq, len_rng]
  have p := isortW_perm (zs.take q)
  have nd : (zs.take q).Nodup := List.Nodup.sublist (List.take_sublist q zs) ((h.nodup_iff).mpr (nodup_rng m))
  refine ⟨by rw [p.length_eq, List.length_take]; omega, ?_, fun x hx => ?_⟩
  · have a := isort_sorted (zs.take q)
    have b : (isort (zs.take q)).Nodup := p.nodup_iff.mpr nd
    have := List.Pairwise.and a b
    exact List.Pairwise.imp (fun h => by obtain ⟨h1, h2⟩ := h; omega) this
  · exact mem_rng.mp (h.mem_iff.mp (List.mem_of_mem_take (p.mem_iff.mp hx)))
theorem perm_ints (m : Nat) (ys : List D) (h : (rangeL 0 m).Perm ys) : ∃ zs : List Int, ys = zs.map .int ∧ zs.Perm (rng m) := by
  rw [rangeL_rng] at h
  refine ⟨ys.map fun y => (num y).getD 0, ?_, ?_⟩
  · rw [List.map_map]
    refine (List.map_id ys).symm.trans (List.map_congr_left fun y hy => ?_)
    obtain ⟨z, _, rfl⟩ := List.mem_map.mp (h.mem_iff.mpr hy)
    rfl
  · have := (h.map (fun y => (num y).getD 0)).symm
    rw [List.map_map] at this
    have e : (rng m).map ((fun y => (num y).getD 0) ∘ PyData.int) = rng m := by
      conv => rhs; rw [← List.map_id (rng m)]
      exact List.map_congr_left fun z _ => rfl
    rw [e] at this
    exact this
theorem lo_bd : ∀ q : Fin 6, ∀ l : Fin 8, 1 ≤ lo q l ∧ lo q l ≤ 42 ∧ sf q ≤ lo q l := by decide +kernel
theorem shq_bd : ∀ q : Fin 6, ∀ k : Fin 49, shq q (k : Nat) (((k : Nat) : Int) / (2 * ((q : Nat) : Int) - 3)) ≤ 4000 := by decide +kernel
def mvs (lo : Nat) : Nat → List D
  | 0 => []
  | r + 1 => .tuple [.int (lo : Nat), .int 0, .int ((lo : Int) + 1)] :: mvs (lo + 1) r
theorem mvs_eq : ∀ (r lo : Nat), mvs lo r = (List.range r).map fun i => .tuple [.int ((lo + i : Nat) : Int), .int 0, .int (((lo + i : Nat) : Int) + 1)]
  | 0, lo => rfl
  | r + 1, lo => by
    rw [mvs, mvs_eq r (lo + 1), List.range_succ_eq_map, List.map_cons, List.map_map]
    simp [Function.comp_def]
    intro a _
    omega
section
variable (n : Nat)
theorem k81 (a b : Int) (J : Jar a b) (q l : Nat) (hq : q < 6) (hl : l < 8) : ∃ (K a' b' : Int), Jar a' b' ∧ lo q l ≤ K ∧ K ≤ lo q l + 6 ∧ runF prog consts 200000 (n + 5) 81 [.io [.int a, .int b], .val (.int q), .val (.int l)] = .ok (.int K, .val) [.io [.int a', .int b'], .emp, .emp] := by
  obtain ⟨v, a1, b1, J1, v0, v1, r1⟩ := take_is (n + 3) 200000 a b 7 J (by omega) (by omega)
  obtain ⟨i, a2, b2, d, J2, e2, r2⟩ := one_is (n + 2) 200000 a1 b1 J1 [.int 0, .int 0, .int 1, .int 2, .int v] (by simp) (by simp)
  have f := from75 n q l hq hl
  have hd : ∃ z : Int, d = .int z ∧ 0 ≤ z ∧ z ≤ 6 := by
    match i, e2 with
    | 0, h => exact ⟨0, by simpa using h.symm, by omega, by omega⟩
    | 1, h => exact ⟨0, by simpa using h.symm, by omega, by omega⟩
    | 2, h => exact ⟨1, by simpa using h.symm, by omega, by omega⟩
    | 3, h => exact ⟨2, by simpa using h.symm, by omega, by omega⟩
    | 4, h => exact ⟨v, by simpa using h.symm, by omega, by omega⟩
    | i + 5, h => simp at h
  obtain ⟨z, rfl, z0, z6⟩ := hd
  refine ⟨lo q l + z, a2, b2, J2, by omega, by omega, ?_⟩
  rw [runF_s (h := rfl) (l := rfl)]
  simp [fd_law_pt_k, b_law_pt_k, f, isHeld, ioIn, r1, r2, le_lim, pure]
theorem mv_comp (s0 s1 s2 s3 s4 : Slot) : ∀ (r i : Nat), compL (compF (runF prog consts 200000 n) consts (.var 5) .nil (.tup (.cons (.var 5) (.cons (.lit (.int 0)) (.cons (.bin .add (.var 5) (.lit (.int 1))) .nil)))) [5]) (rangeL i r) [s0, s1, s2, s3, s4, .emp] = .ok (mvs i r) [s0, s1, s2, s3, s4, .emp]
  | 0, i => rfl
  | r + 1, i => by
    have ih := mv_comp s0 s1 s2 s3 s4 r (i + 1)
    have e3 : ((i + 1 : Nat) : Int) = (i : Int) + 1 := by omega
    rw [e3] at ih
    rw [rangeL, compL, mvs]
    simp [compF, tstE, wipeE, le_lim, ih]
theorem chain82 (q l m : Nat) (hm : m = q + l) (h1 : 1 ≤ m) (h2 : m < 1000) (P : List Int) : runF prog consts 200000 (n + 1) 82 [.val (.int q), .val (.int l), .valx (.tuple (P.map .int))] = .ok (sch m (.tuple (rangeL 0 m)) (.tuple (rangeL 0 m)) (.tuple (mvs 0 (m - 1))) P, .x1) [.emp, .emp, .emp] := by
  have e : ((q : Int) + (l : Int)) = (m : Int) := by omega
  have e1 : ((m : Int) - 1).toNat = m - 1 := by omega
  have i1 : inR (m : Int) = true := inR_of (by omega) (by omega)
  have i2 : inR ((m : Int) - 1) = true := inR_of (by omega) (by omega)
  have l1 : (rangeL 0 (m - 1)).length ≤ lim := le_lim (by rw [rangeL_length]; omega)
  have l2 : m ≤ lim := le_lim (by omega)
  have tu : ∀ xs : List D, biOp .tuple1 [.list xs] = some (.tuple xs, .val) := fun _ => rfl
  have tr : biOp .tupleR [.int m] = some (.tuple (rangeL 0 m), .val) := by
    show (if inR (m : Int) = true ∧ (m : Int).toNat ≤ lim then some ((.tuple (rangeL 0 (m : Int).toNat) : D), Fl.val) else none) = _
    rw [if_pos ⟨i1, by omega⟩, Int.toNat_natCast]
  have mc := mv_comp n (.val (.int q)) (.val (.int l)) (.valx (.tuple (P.map .int))) (.val (.int m)) .emp (m - 1) 0
  simp only [show ((0 : Nat) : Int) = 0 from rfl] at mc
  rw [runF_s (h := rfl) (l := rfl)]
  unfold sch
  simp [fd_law_chain_of, b_law_chain_of, putS, e, i1, i2, e1, l1, noIo, wipeE, backE, noExc, mc, tu, tr, le_lim]
end
end TI

set_option Elab.async false
set_option autoImplicit false
set_option maxRecDepth 100000
set_option maxHeartbeats 4000000
set_option linter.all false
/-! W30: the law. -/
namespace TI
open PySem
@[simp] theorem okPut_valy (d : D) : okPut (some (.valy d)) = true := rfl
def lawB : IS := match b_law with
  | .cons (.forr _ _ b) _ => b
  | _ => .nil
theorem int_comp (Φ : Fun) (s0 s1 s2 s3 s4 s5 s6 s7 s8 s9 : Slot) : ∀ zs : List Int, compL (compF Φ consts (.var 10) .nil (.bi .int1 (.cons (.var 10) .nil)) [10]) (zs.map .int) [s0, s1, s2, s3, s4, s5, s6, s7, s8, s9, .emp] = .ok (zs.map .int) [s0, s1, s2, s3, s4, s5, s6, s7, s8, s9, .emp]
  | [] => rfl
  | a :: zs => by
    have ih := int_comp Φ s0 s1 s2 s3 s4 s5 s6 s7 s8 s9 zs
    rw [List.map_cons, compL]
    simp [compF, tstE, wipeE, ih]
theorem turn_is (ns : List Int) (i : Nat) (hi : i < 4) (s1 s2 s3 s4 s5 s6 s7 s8 s9 : Slot) (h1 : okPut (some s1) = true) (h2 : okPut (some s2) = true) (h3 : okPut (some s3) = true) (h4 : okPut (some s4) = true) (h5 : okPut (some s5) = true) (h6 : okPut (some s6) = true) (h7 : okPut (some s7) = true) (h8 : okPut (some s8) = true) (h9 : okPut (some s9) = true) :
    ∃ t1 t2 t3 t4 t5 t6 t7 t8 t9, okPut (some t1) = true ∧ okPut (some t2) = true ∧ okPut (some t3) = true ∧ okPut (some t4) = true ∧ okPut (some t5) = true ∧ okPut (some t6) = true ∧ okPut (some t7) = true ∧ okPut (some t8) = true ∧ okPut (some t9) = true ∧
    forF (runF prog consts 200000 11) consts 200000 (.var 1) lawB (.int i) [.val (.list (ns.map .int)), s1, s2, s3, s4, s5, s6, s7, s8, s9, .emp] = .next [.val (.list (ns.map .int)), t1, t2, t3, t4, t5, t6, t7, t8, t9, .emp] := by
  obtain ⟨a0, b0, J0, r0⟩ := pool_is 10 200000 ns i hi
  obtain ⟨vq, a1, b1, J1, q0, q1, r1⟩ := take_is 10 200000 a0 b0 6 J0 (by omega) (by omega)
  obtain ⟨vl, a2, b2, J2, l0, l1, r2⟩ := take_is 10 200000 a1 b1 8 J1 (by omega) (by omega)
  obtain ⟨q, rfl⟩ := Int.eq_ofNat_of_zero_le q0
  obtain ⟨l', rfl⟩ := Int.eq_ofNat_of_zero_le l0
  have hq : q < 6 := by omega
  obtain ⟨l, hl, l8, ql⟩ : ∃ l : Nat, (l' : Int) + (if (q : Int) + (l' : Int) = 0 then 1 else 0) = (l : Int) ∧ l < 8 ∧ 1 ≤ q + l := by
    by_cases z : (q : Int) + (l' : Int) = 0
    · exact ⟨1, by rw [if_pos z]; omega, by omega, by omega⟩
    · exact ⟨l', by rw [if_neg z]; omega, by omega, by omega⟩
  obtain ⟨m, hm⟩ : ∃ m, m = q + l := ⟨_, rfl⟩
  have qlm : (q : Int) + (l : Int) = (m : Int) := by omega
  obtain ⟨a3, b3, ys, J3, py, r3⟩ := mixed_is 9 200000 (rangeL 0 m) (by rw [rangeL_length]; omega) a2 b2 J2
  obtain ⟨zs, rfl, pz⟩ := perm_ints m ys py
  have pls := pls_of zs m q pz (by omega)
  obtain ⟨K, a4, b4, J4, K0, K1, r4⟩ := k81 6 a3 b3 J3 q l hq l8
  obtain ⟨lb1, lb2, lb3⟩ := lo_bd ⟨q, hq⟩ ⟨l, l8⟩
  simp only at lb1 lb2 lb3
  have pq : Pq q K (K / (2 * (q : Int) - 3)) := ⟨hq, by omega, by omega, fun _ => rfl, by omega⟩
  obtain ⟨kn, rfl⟩ := Int.eq_ofNat_of_zero_le (show 0 ≤ K by omega)
  have sb := shq_bd ⟨q, hq⟩ ⟨kn, by omega⟩
  simp only at sb
  obtain ⟨s, hs⟩ : ∃ s, (kn : Int) / (2 * (q : Int) - 3) = s := ⟨_, rfl⟩
  rw [hs] at pq sb
  have sg := shq_ge q kn s
  have c : Cf m q l (.tuple (rangeL 0 m)) (.tuple (rangeL 0 m)) (.tuple (mvs 0 (m - 1))) (isort (zs.take q)) kn s := {
    pl := pls
    pq := pq
    lk := K0
    l8 := l8
    ml := hm
    m1 := by omega
    mc := fun n => by
      have := mach_ok n m (by omega) (by omega)
      unfold chainM at this
      rw [mvs_eq]
      simpa using this }
  have lw : lst q l kn s ≤ 4000 ∧ 1 ≤ lst q l kn s := by
    have := uz_le l
    have hu : (uz l : Int) * ((uz l : Int) + 1) ≤ 11 * 12 := Int.mul_le_mul (by omega) (by omega) (by omega) (by omega)
    have ge := lst_ge q l kn s
    unfold lst at ge ⊢
    (repeat' split) <;> omega
  obtain ⟨v5, a5, b5, J5, v50, v51, r5⟩ := take_is 10 200000 a4 b4 40 J4 (by omega) (by omega)
  obtain ⟨v6, a6, b6, J6, v60, v61, r6⟩ := take_is 10 200000 a5 b5 4000 J5 (by omega) (by omega)
  obtain ⟨w, hw⟩ : ∃ w, lst q l kn s = w := ⟨_, rfl⟩
  rw [hw] at lw
  obtain ⟨i7, a7, b7, d7, J7, e7, r7⟩ := one_is 9 200000 a6 b6 J6 [.int w, .int (w + v5), .int (if w + v6 < 5000 then w + v6 else 5000), .int 5000] (by simp) (by simp)
  have hd : ∃ size : Nat, d7 = .int size ∧ w ≤ size ∧ size ≤ 5000 := by
    have f : ∀ z : Int, w ≤ z → z ≤ 5000 → PyData.int z = d7 → ∃ size : Nat, d7 = .int size ∧ w ≤ size ∧ size ≤ 5000 := fun z z1 z2 e =>
      ⟨z.toNat, by rw [← e, Int.toNat_of_nonneg (by omega)], by omega, by omega⟩
    match i7, e7 with
    | 0, h => exact f w (by omega) (by omega) (by simpa using h)
    | 1, h => exact f (w + v5) (by omega) (by omega) (by simpa using h)
    | 2, h => exact f (if w + v6 < 5000 then w + v6 else 5000) (by split <;> omega) (by split <;> omega) (by simpa using h)
    | 3, h => exact f 5000 (by omega) (by omega) (by simpa using h)
    | i + 4, h => simp at h
  obtain ⟨size, rfl, z1, z2⟩ := hd
  have qr := quiet_right 0 c [.int a7, .int b7] size (by omega) z2
  have lr := loud_right 0 c [.int a7, .int b7] size (by omega) z2
  have pr := plan_right 0 pq
  obtain ⟨a8, b8, J8, dr⟩ := doors_right 0 c a7 b7 J7
  have r78 := ts78 6 pq l l8
  rw [hw] at r78 dr
  have ch := chain82 10 q l m hm (by omega) (by omega) (isort (zs.take q))
  generalize sch m (.tuple (rangeL 0 m)) (.tuple (rangeL 0 m)) (.tuple (mvs 0 (m - 1))) (isort (zs.take q)) = S at *
  have im : inR (m : Int) = true := inR_of (by omega) (by omega)
  have lm : m ≤ lim := le_lim (by omega)
  have lR : biOp .listR [.int m] = some (.list (rangeL 0 m), .fr) := by
    show (if inR (m : Int) = true ∧ (m : Int).toNat ≤ lim then some ((.list (rangeL 0 (m : Int).toNat) : D), Fl.fr) else none) = _
    rw [if_pos ⟨im, by omega⟩, Int.toNat_natCast]
  have ct : cut (zs.map .int) none (some (q : Int)) = (zs.take q).map .int := by
    have zl : zs.length = m := by rw [pz.length_eq, len_rng]
    unfold cut cutAt
    simp only [List.drop_zero, Nat.sub_zero, List.length_map]
    rw [if_neg (by omega), List.map_take, show min (q : Int).toNat zs.length = q by omega]
  have tl : (zs.take q).length ≤ lim := le_lim (by rw [List.length_take]; omega)
  have ic := fun Φ s0 s1 s2 s3 s4 s5 s6 s7 s8 s9 => int_comp Φ s0 s1 s2 s3 s4 s5 s6 s7 s8 s9 (zs.take q)
  have so : biOp .sorted1 [.list ((zs.take q).map .int)] = some (.list ((isort (zs.take q)).map .int), .fr) := by
    show (match nums ((zs.take q).map .int) with
      | some ns => some ((.list ((isort ns).map .int) : D), Fl.fr)
      | none => _) = _
    rw [nums_ints]
  have mn : biOp .min2 [.int 60, .int kn] = some (.int kn, .val) := by
    rw [min_2, if_pos (by omega)]
  have mn2 : biOp .min2 [.int 5000, .int (w + v6)] = some (.int (if w + v6 < 5000 then w + v6 else 5000), .val) := rfl
  generalize (if w + v6 < 5000 then w + v6 else 5000) = w3 at *
  generalize zs.take q = tk at *
  refine ⟨.val (.int i), .own [.int a8, .int b8], .val (.int q), .val (.int l), .valx (.tuple ((isort tk).map .int)), .valy S, .val (.int kn), .val (.int w), .val (.int size), rfl, rfl, rfl, rfl, rfl, rfl, rfl, rfl, rfl, ?_⟩
  clear c lw pls lb1 lb2 lb3 sb sg e7 pz py hs pq K0 K1 ql
  generalize (q : Int) = Q at *
  generalize (l : Int) = L at *
  generalize (l' : Int) = L' at *
  generalize (m : Int) = M at *
  generalize (kn : Int) = K at *
  generalize (size : Int) = Z at *
  generalize (i : Int) = I at *
  simp [-bt_var, -min_2, bt_b, putS_b, h1, h2, h3, h4, h5, h6, h7, h8, h9, forF, lawB, b_law, r0, isHeld, ioIn, r1, r2, hl, qlm, lR, r3, ct, optE, tl, noIo, wipeE, backE, noExc, ic, so, ch, r4, mn, r78, r5, r6, r7, mn2, le_lim, pure, qr, lr, pr, dr]
theorem law_loop (ns : List Int) : ∀ (r i : Nat) (s1 s2 s3 s4 s5 s6 s7 s8 s9 : Slot), i + r = 4 → okPut (some s1) = true → okPut (some s2) = true → okPut (some s3) = true → okPut (some s4) = true → okPut (some s5) = true → okPut (some s6) = true → okPut (some s7) = true → okPut (some s8) = true → okPut (some s9) = true →
    ∃ e, forL (forF (runF prog consts 200000 11) consts 200000 (.var 1) lawB) (rangeL i r) [.val (.list (ns.map .int)), s1, s2, s3, s4, s5, s6, s7, s8, s9, .emp] = .next (.val (.list (ns.map .int)) :: e)
  | 0, i, s1, s2, s3, s4, s5, s6, s7, s8, s9, _, _, _, _, _, _, _, _, _, _ => ⟨_, rfl⟩
  | r + 1, i, s1, s2, s3, s4, s5, s6, s7, s8, s9, e, h1, h2, h3, h4, h5, h6, h7, h8, h9 => by
    obtain ⟨t1, t2, t3, t4, t5, t6, t7, t8, t9, k1, k2, k3, k4, k5, k6, k7, k8, k9, st⟩ := turn_is ns i (by omega) s1 s2 s3 s4 s5 s6 s7 s8 s9 h1 h2 h3 h4 h5 h6 h7 h8 h9
    obtain ⟨e', ih⟩ := law_loop ns r (i + 1) t1 t2 t3 t4 t5 t6 t7 t8 t9 (by omega) k1 k2 k3 k4 k5 k6 k7 k8 k9
    refine ⟨e', ?_⟩
    have e3 : ((i + 1 : Nat) : Int) = (i : Int) + 1 := by omega
    rw [e3] at ih
    rw [rangeL, forL, st]
    exact ih
theorem law_tree (ns : List Int) : runF prog consts 200000 12 90 [.val (.list (ns.map .int))] = .ok (.bool true, .val) [.emp] := by
  obtain ⟨e, lp⟩ := law_loop ns 4 0 .emp .emp .emp .emp .emp .emp .emp .emp .emp rfl rfl rfl rfl rfl rfl rfl rfl rfl rfl
  have i1 : inR 4 = true := by decide
  have l1 : (rangeL 0 4).length ≤ lim := le_lim (by rw [rangeL_length]; omega)
  simp only [show ((0 : Nat) : Int) = 0 from rfl] at lp
  rw [runF_s (h := rfl) (l := rfl)]
  unfold lawB b_law at lp
  simp [fd_law, b_law, i1, l1, lp]
end TI

set_option Elab.async false
set_option autoImplicit false
set_option maxRecDepth 100000
/-! TI1: how trees stand in the heap; what a run may change. -/
abbrev TI.PD := PySem.PyData
namespace L2
open PySem TI
section
variable {K : PySem.W.Frag} {F F' H H' : Hp}
mutual
theorem Dp.mono (s : Same F F') : ∀ {v : V} {d : PD}, Dp K F v d → Dp K F' v d
  | _, _, .non => .non
  | _, _, .bl b => .bl b
  | _, _, .int i => .int i
  | _, _, .str x => .str x
  | _, _, .lst hs ha => .lst (s.seq hs) (DpAll.mono s ha)
  | _, _, .tup hs ha => .tup (by
      rcases hs with (h | ⟨o, h⟩) | h
      · exact .inl (.inl (s _ _ h))
      · exact .inl (.inr ⟨o, s _ _ h⟩)
      · exact .inr h) (DpAll.mono s ha)
theorem DpAll.mono (s : Same F F') : ∀ {vs : List V} {ds : List PD}, DpAll K F vs ds → DpAll K F' vs ds
  | _, _, .nil => .nil
  | _, _, .cons h t => .cons (Dp.mono s h) (DpAll.mono s t)
end
theorem DpAll.length : ∀ {vs : List V} {ds : List PD}, DpAll K F vs ds → vs.length = ds.length
  | _, _, .nil => rfl
  | _, _, .cons _ t => by rw [List.length_cons, List.length_cons, DpAll.length t]
theorem DpAll.append : ∀ {vs us : List V} {ds es : List PD}, DpAll K F vs ds → DpAll K F us es → DpAll K F (vs ++ us) (ds ++ es)
  | _, _, _, _, .nil, h => h
  | _, _, _, _, .cons a t, h => .cons a (DpAll.append t h)
theorem DpAll.get : ∀ {vs : List V} {ds : List PD} {i : Nat} {v : V}, DpAll K F vs ds → vs[i]? = some v → ∃ d, ds[i]? = some d ∧ Dp K F v d
  | _, _, _, _, .nil, h => by simp at h
  | _, _, 0, _, .cons a _, h => by
    simp at h
    subst h
    exact ⟨_, rfl, a⟩
  | _, _, i + 1, _, .cons _ t, h => by
    obtain ⟨d, h1, h2⟩ := DpAll.get (i := i) t (by simpa using h)
    exact ⟨d, by simpa using h1, h2⟩
theorem DpAll.getD : ∀ {vs : List V} {ds : List PD} {i : Nat} {d : PD}, DpAll K F vs ds → ds[i]? = some d → ∃ v, vs[i]? = some v ∧ Dp K F v d
  | _, _, _, _, .nil, h => by simp at h
  | _, _, 0, _, .cons a _, h => by
    simp at h
    subst h
    exact ⟨_, rfl, a⟩
  | _, _, i + 1, _, .cons _ t, h => by
    obtain ⟨d, h1, h2⟩ := DpAll.getD (i := i) t (by simpa using h)
    exact ⟨d, by simpa using h1, h2⟩
theorem DpAll.drop : ∀ {vs : List V} {ds : List PD} (n : Nat), DpAll K F vs ds → DpAll K F (vs.drop n) (ds.drop n)
  | _, _, 0, h => h
  | _, _, _ + 1, .nil => .nil
  | _, _, n + 1, .cons _ t => DpAll.drop n t
theorem DpAll.take : ∀ {vs : List V} {ds : List PD} (n : Nat), DpAll K F vs ds → DpAll K F (vs.take n) (ds.take n)
  | _, _, 0, _ => .nil
  | _, _, _ + 1, .nil => .nil
  | _, _, n + 1, .cons a t => .cons a (DpAll.take n t)
theorem DpAll.set {v : V} {d : PD} (h : Dp K F v d) : ∀ {vs : List V} {ds : List PD} (n : Nat), DpAll K F vs ds → DpAll K F (vs.set n v) (ds.set n d)
  | _, _, _, .nil => .nil
  | _, _, 0, .cons _ t => .cons h t
  | _, _, n + 1, .cons a t => .cons a (DpAll.set h n t)
theorem DpAll.eraseIdx : ∀ {vs : List V} {ds : List PD} (n : Nat), DpAll K F vs ds → DpAll K F (vs.eraseIdx n) (ds.eraseIdx n)
  | _, _, _, .nil => .nil
  | _, _, 0, .cons _ t => t
  | _, _, n + 1, .cons a t => .cons a (DpAll.eraseIdx n t)
theorem DpAll.reverse {vs : List V} {ds : List PD} (h : DpAll K F vs ds) : DpAll K F vs.reverse ds.reverse := by
  induction vs generalizing ds with
  | nil => cases h; exact .nil
  | cons v vs ih =>
    cases h with
    | cons a t =>
      rw [List.reverse_cons, List.reverse_cons]
      exact (ih t).append (.cons a .nil)
theorem DpAll.dropLast {vs : List V} {ds : List PD} (h : DpAll K F vs ds) : DpAll K F vs.dropLast ds.dropLast := by
  rw [List.dropLast_eq_take, List.dropLast_eq_take, h.length]
  exact h.take _
theorem DpAll.rep {vs : List V} {ds : List PD} (h : DpAll K F vs ds) : ∀ n : Nat, DpAll K F (List.replicate n vs).flatten (List.replicate n ds).flatten
  | 0 => .nil
  | n + 1 => by
    rw [List.replicate_succ, List.replicate_succ, List.flatten_cons, List.flatten_cons]
    exact h.append (DpAll.rep h n)
theorem DpAll.split {ds es : List PD} : ∀ {vs : List V}, DpAll K F vs (ds ++ es) → ∃ us ws, vs = us ++ ws ∧ DpAll K F us ds ∧ DpAll K F ws es := by
  induction ds with
  | nil => exact fun {vs} h => ⟨[], vs, rfl, .nil, h⟩
  | cons d ds ih =>
    intro vs h
    cases h with
    | cons a t =>
      obtain ⟨us, ws, e, h1, h2⟩ := ih t
      exact ⟨_ :: us, ws, by rw [e]; rfl, .cons a h1, h2⟩
/-- numbers, truths of trees are those of values -/
theorem DpAll.nums : ∀ {vs : List V} {ds : List PD} {ns : List Int}, DpAll K F vs ds → nums ds = some ns → vs = ns.map V.int
  | _, _, _, .nil, h => by
    simp [TI.nums] at h
    subst h
    rfl
  | _, _, ns, .cons (d := d) a t, h => by
    cases a with
    | int i =>
      simp only [TI.nums, Option.map_eq_some_iff] at h
      obtain ⟨r, h1, rfl⟩ := h
      rw [DpAll.nums t h1]
      rfl
    | _ => simp [TI.nums] at h
theorem DpAll.bools : ∀ {vs : List V} {ds : List PD} {ns : List Bool}, DpAll K F vs ds → bools ds = some ns → vs = ns.map V.bl
  | _, _, _, .nil, h => by
    simp [TI.bools] at h
    subst h
    rfl
  | _, _, ns, .cons (d := d) a t, h => by
    cases a with
    | bl i =>
      simp only [TI.bools, Option.map_eq_some_iff] at h
      obtain ⟨r, h1, rfl⟩ := h
      rw [DpAll.bools t h1]
      rfl
    | _ => simp [TI.bools] at h
theorem DpAll.ints : ∀ {ns : List Int}, DpAll K F (ns.map V.int) (ns.map PyData.int)
  | [] => .nil
  | _ :: _ => .cons (.int _) DpAll.ints
end

end L2

namespace TI
open PySem L2
/-! ### slots -/
/-- its object is known in full, and has no dict -/
def Xt (F : Hp) (v : V) : Prop := ∃ (a : Addr) (o : Obj) (u : HO), v = .ref a ∧ F a = some (.frz o u) ∧ o.dict = none
theorem Xt.mono {F F' : Hp} {v : V} (h : Xt F v) (s : Same F F') : Xt F' v := by
  obtain ⟨a, o, u, h1, h2, h3⟩ := h
  exact ⟨a, o, u, h1, s _ _ h2, h3⟩
/-- a pair, its second one known in full -/
def Y1 (K : PySem.W.Frag) (F : Hp) (v : V) (d : D) : Prop := ∃ (a : Addr) (v0 v1 : V) (d0 d1 : D), v = .ref a ∧ d = .tuple [d0, d1] ∧ SqT K F a [v0, v1] ∧ Dp K F v1 d1 ∧ Xt F v1
theorem sqT_mono {K : PySem.W.Frag} {F F' : Hp} {a : Addr} {vs : List V} (s : Same F F') (h : SqT K F a vs) : SqT K F' a vs := by
  rcases h with (h | ⟨o, h⟩) | h
  · exact .inl (.inl (s _ _ h))
  · exact .inl (.inr ⟨o, s _ _ h⟩)
  · exact .inr h
theorem Y1.mono {K : PySem.W.Frag} {F F' : Hp} {v : V} {d : D} (h : Y1 K F v d) (s : Same F F') : Y1 K F' v d := by
  obtain ⟨a, v0, v1, d0, d1, h1, h2, h3, h4, h5⟩ := h
  exact ⟨a, v0, v1, d0, d1, h1, h2, sqT_mono s h3, Dp.mono s h4, h5.mono s⟩
def SlotOk (K : PySem.W.Frag) (F H : Hp) : Slot → Option V → Prop
  | .emp, _ => True
  | .val d, o => ∃ v, o = some v ∧ Dp K F v d
  | .valx d, o => ∃ v, o = some v ∧ Dp K F v d ∧ Xt F v
  | .valy d, o => ∃ v, o = some v ∧ Dp K F v d ∧ Y1 K F v d
  | .own xs, o => ∃ a vs, o = some (.ref a) ∧ F a = none ∧ H a = some (.lst vs) ∧ DpAll K F vs xs
  | .io xs, o => ∃ a vs, o = some (.ref a) ∧ F a = none ∧ H a = some (.lst vs) ∧ DpAll K F vs xs
/-- the list of a slot that holds one -/
def held : Slot → Option (List D)
  | .own xs => some xs
  | .io xs => some xs
  | _ => none
def Own (e : En) (σ : L2.St) (a : Addr) : Prop := ∃ (i : Nat) (s : Slot) (xs : List D), e[i]? = some s ∧ held s = some xs ∧ σ[i]? = some (some (.ref a))
/-- the tables of code objects -/
structure TabX (T : List (Addr × Str)) (H : Hp) : Prop where
  ok : LamX.Tabs T H
structure Agr (K : PySem.W.Frag) (T : List (Addr × Str)) (e : En) (σ : L2.St) (F H : Hp) : Prop where
  len : e.length = σ.length
  slots : ∀ (i : Nat) (s : Slot), e[i]? = some s → ∃ o, σ[i]? = some o ∧ SlotOk K F H s o
  dis : ∀ (i j : Nat) (s t : Slot) (xs ys : List D), e[i]? = some s → e[j]? = some t → held s = some xs → held t = some ys → i ≠ j → σ[i]? ≠ σ[j]?
  sub : Same F H
  noT : ∀ a ps, F a ≠ some (.tbl ps)
  tab : TabX T H
/-- from one state to another: what is known for good stays; what isn't this frame's stays -/
structure Step (K : PySem.W.Frag) (T : List (Addr × Str)) (e : En) (σ : L2.St) (F H : Hp) (e' : En) (σ' : L2.St) (F' H' : Hp) : Prop where
  ff : Same F F'
  keep : ∀ a o, H a = some o → ¬ Own e σ a → (∀ ps, o ≠ .tbl ps) → H' a = some o
  out : ∀ a o, H a = some o → F a = none → ¬ Own e σ a → F' a = none
  own : ∀ a, Own e' σ' a → Own e σ a ∨ H a = none
  agr : Agr K T e' σ' F' H'
  io : ∀ (i : Nat) (xs : List D), e[i]? = some (.io xs) → (∃ ys, e'[i]? = some (.io ys)) ∧ σ'[i]? = σ[i]?
  there : ∀ a, H a ≠ none → H' a ≠ none
/-- no list is changed -/
def Quiet (H H' : Hp) : Prop := ∀ a o, H a = some o → (∀ ps, o ≠ .tbl ps) → H' a = some o
theorem Quiet.refl (H : Hp) : Quiet H H := fun _ _ h _ => h
theorem Quiet.trans {H H1 H2 : Hp} (a : Quiet H H1) (b : Quiet H1 H2) : Quiet H H2 := fun c o h n => b c o (a c o h n) n
/-- how a result is held, behind a run that began at e σ F H -/
def Res (K : PySem.W.Frag) (e : En) (σ : L2.St) (H : Hp) (e' : En) (σ' : L2.St) (F' H' : Hp) : D × Fl → V → Prop
  | (d, .val), v => Dp K F' v d
  | (d, .xt), v => Dp K F' v d ∧ Xt F' v
  | (d, .x1), v => Dp K F' v d ∧ Y1 K F' v d
  | (d, .fr), v => ∃ xs a vs, d = .list xs ∧ v = .ref a ∧ F' a = none ∧ H' a = some (.lst vs) ∧ DpAll K F' vs xs ∧ ¬ Own e' σ' a ∧ (H a = none ∨ Own e σ a)
  | (d, .br i), v => ∃ xs a vs, d = .list xs ∧ v = .ref a ∧ H' a = some (.lst vs) ∧ DpAll K F' vs xs ∧ σ'[i]? = some (some (.ref a))
/-- what is read on the spot -/
def Top (K : PySem.W.Frag) (F H : Hp) (v : V) (d : D) : Prop := Dp K F v d ∨ ∃ xs a vs, d = .list xs ∧ v = .ref a ∧ H a = some (.lst vs) ∧ DpAll K F vs xs
section
variable {K : PySem.W.Frag} {T : List (Addr × Str)} {e e' e'' : En} {σ σ' σ'' : L2.St} {F F' F'' H H' H'' : Hp} {d : D} {v : V}
theorem Top.dp (h : Top K F H v d) (s : Same F H) : Dp K H v d := by
  rcases h with h | ⟨xs, a, vs, rfl, rfl, h1, h2⟩
  · exact Dp.mono s h
  · exact .lst (.of h1) (DpAll.mono s h2)
theorem Top.lst {xs : List D} (h : Top K F H v (.list xs)) (s : Same F H) : ∃ a vs, v = .ref a ∧ SqL K H a vs ∧ DpAll K F vs xs := by
  rcases h with h | ⟨ys, a, vs, e, rfl, h1, h2⟩
  · cases h with
    | lst h1 h2 => exact ⟨_, _, rfl, s.seq h1, h2⟩
  · cases e
    exact ⟨a, vs, rfl, .of h1, h2⟩
theorem seqT (s : Same F H) {a : Addr} {vs : List V} (h : SqT K F a vs) : SqT K H a vs := by
  rcases h with (h | ⟨o, h⟩) | h
  · exact .inl (.inl (s _ _ h))
  · exact .inl (.inr ⟨o, s _ _ h⟩)
  · exact .inr h
theorem Top.tup {xs : List D} (h : Top K F H v (.tuple xs)) (s : Same F H) : ∃ a vs, v = .ref a ∧ SqT K H a vs ∧ DpAll K F vs xs := by
  rcases h with h | ⟨ys, a, vs, e, _⟩
  · cases h with
    | tup h1 h2 => exact ⟨_, _, rfl, seqT s h1, h2⟩
  · cases e
theorem Top.int {i : Int} (h : Top K F H v (.int i)) : v = .int i := by
  rcases h with h | ⟨ys, a, vs, e, _⟩
  · cases h; rfl
  · cases e
theorem Top.bool {b : Bool} (h : Top K F H v (.bool b)) : v = .bl b := by
  rcases h with h | ⟨ys, a, vs, e, _⟩
  · cases h; rfl
  · cases e
theorem Top.str {x : Str} (h : Top K F H v (.str x)) : v = .str x := by
  rcases h with h | ⟨ys, a, vs, e, _⟩
  · cases h; rfl
  · cases e
theorem Top.none (h : Top K F H v .none) : v = .non := by
  rcases h with h | ⟨ys, a, vs, e, _⟩
  · cases h; rfl
  · cases e
theorem Res.top {x : D × Fl} (h : Res K e σ H e' σ' F' H' x v) : Top K F' H' v x.1 := by
  obtain ⟨d, f⟩ := x
  cases f with
  | val => exact .inl h
  | xt => exact .inl h.1
  | x1 => exact .inl h.1
  | fr =>
    obtain ⟨xs, a, vs, h1, h2, _, h3, h4, _⟩ := h
    exact .inr ⟨xs, a, vs, h1, h2, h3, h4⟩
  | br i =>
    obtain ⟨xs, a, vs, h1, h2, h3, h4, _⟩ := h
    exact .inr ⟨xs, a, vs, h1, h2, h3, h4⟩

theorem Step.refl (a : Agr K T e σ F H) : Step K T e σ F H e σ F H :=
  ⟨Same.refl F, fun _ _ h _ _ => h, fun _ _ _ h _ => h, fun _ h => .inl h, a, fun _ xs h => ⟨⟨xs, h⟩, rfl⟩, fun _ h => h⟩
theorem Step.trans (s : Step K T e σ F H e' σ' F' H') (t : Step K T e' σ' F' H' e'' σ'' F'' H'') : Step K T e σ F H e'' σ'' F'' H'' := by
  have no : ∀ a, H a ≠ none → ¬ Own e σ a → ¬ Own e' σ' a := fun a h n o => (s.own a o).elim n h
  refine ⟨s.ff.trans t.ff, fun a o h n nt => t.keep a o (s.keep a o h n nt) (no a (by rw [h]; simp) n) nt, fun a o h f n => ?_, fun a o => ?_, t.agr, fun i xs h => ?_, fun a h => t.there a (s.there a h)⟩
  · have h0 : H a ≠ none := by rw [h]; simp
    have h1 := s.there a h0
    cases q : H' a with
    | none => exact absurd q h1
    | some o' => exact t.out a o' q (s.out a o h f n) (no a h0 n)
  · rcases t.own a o with z | z
    · exact s.own a z
    · refine .inr ?_
      cases q : H a with
      | none => rfl
      | some o' => exact absurd z (s.there a (by rw [q]; simp))
  · obtain ⟨⟨ys, h1⟩, e1⟩ := s.io i xs h
    obtain ⟨h2, e2⟩ := t.io i ys h1
    exact ⟨h2, e2.trans e1⟩
end
end TI

set_option Elab.async false
set_option autoImplicit false
set_option maxRecDepth 100000
/-! TI2: states: a result is kept, a slot takes it, new objects. -/
namespace TI
open PySem L2
section
variable {K : PySem.W.Frag} {T : List (Addr × Str)} {e e' e'' : En} {σ σ' σ'' : L2.St} {F F' F'' H H' H'' : Hp} {d : D} {v : V} {a : Addr} {vs : List V} {xs : List D}
theorem SlotOk.mono {s : Slot} {o : Option V} (h : SlotOk K F H s o) (ff : Same F F') (k : ∀ a xs, held s = some xs → o = some (.ref a) → H' a = H a ∧ F' a = none) : SlotOk K F' H' s o := by
  cases s with
  | emp => trivial
  | val d =>
    obtain ⟨v, e, q⟩ := h
    exact ⟨v, e, Dp.mono ff q⟩
  | valx d =>
    obtain ⟨v, e, q, r⟩ := h
    exact ⟨v, e, Dp.mono ff q, r.mono ff⟩
  | valy d =>
    obtain ⟨v, e, q, r⟩ := h
    exact ⟨v, e, Dp.mono ff q, r.mono ff⟩
  | own xs =>
    obtain ⟨a, vs, e, f, h1, q⟩ := h
    obtain ⟨k1, k2⟩ := k a xs rfl e
    exact ⟨a, vs, e, k2, by rw [k1]; exact h1, DpAll.mono ff q⟩
  | io xs =>
    obtain ⟨a, vs, e, f, h1, q⟩ := h
    obtain ⟨k1, k2⟩ := k a xs rfl e
    exact ⟨a, vs, e, k2, by rw [k1]; exact h1, DpAll.mono ff q⟩
/-- what a slot that holds a list says -/
theorem Agr.holds (g : Agr K T e σ F H) {i : Nat} {s : Slot} (h : e[i]? = some s) (q : held s = some xs) : ∃ a vs, σ[i]? = some (some (.ref a)) ∧ F a = none ∧ H a = some (.lst vs) ∧ DpAll K F vs xs := by
  obtain ⟨o, h1, h2⟩ := g.slots i s h
  cases s with
  | emp => cases q
  | val d => cases q
  | valx d => cases q
  | valy d => cases q
  | own ys =>
    cases q
    obtain ⟨a, vs, rfl, h3⟩ := h2
    exact ⟨a, vs, h1, h3⟩
  | io ys =>
    cases q
    obtain ⟨a, vs, rfl, h3⟩ := h2
    exact ⟨a, vs, h1, h3⟩
theorem Agr.own_at (g : Agr K T e σ F H) (h : Own e σ a) : F a = none ∧ ∃ vs, H a = some (.lst vs) := by
  obtain ⟨i, s, xs, h1, h2, h3⟩ := h
  obtain ⟨b, vs, q1, q2, q3, _⟩ := g.holds h1 h2
  rw [h3] at q1
  cases q1
  exact ⟨q2, vs, q3⟩
theorem tabs_new {T : List (Addr × Str)} (t : TabX T H) {o : HO} (n : H a = none) : TabX T (upd H a o) := ⟨t.ok.ext fun b u e => by
  rw [upd_ne (ne_of_none e n)]
  exact e⟩
theorem tabs_lst {T : List (Addr × Str)} (t : TabX T H) {us ws : List V} (n : H a = some (.lst us)) : TabX T (upd H a (.lst ws)) := by
  refine ⟨fun p hp => ?_⟩
  obtain ⟨ps, h1, h2, h3⟩ := t.ok p hp
  refine ⟨ps, by rw [upd_ne (ne_of h1 n (by intro z; cases z))]; exact h1, h2, fun pos cv hc => ?_⟩
  obtain ⟨c, e1, e2⟩ := h3 pos cv hc
  exact ⟨c, e1, by rw [upd_ne (ne_of e2 n (by intro z; unfold LamX.CodeO at z; cases z))]; exact e2⟩
/-- the same slots in a heap with one more object -/
theorem Agr.new (g : Agr K T e σ F H) {o : HO} (n : H a = none) : Agr K T e σ F (upd H a o) := by
  have fa : F a = none := g.sub.free n
  refine ⟨g.len, fun i s h => ?_, g.dis, fun b u q => by rw [upd_ne (ne_of_none (g.sub b u q) n)]; exact g.sub b u q, g.noT, tabs_new g.tab n⟩
  obtain ⟨o', h1, h2⟩ := g.slots i s h
  refine ⟨o', h1, h2.mono (Same.refl F) fun b ys hy e1 => ?_⟩
  obtain ⟨c, vs, q1, q2, q3, _⟩ := g.holds h hy
  rw [h1] at q1
  cases q1
  cases e1
  exact ⟨upd_ne (ne_of_none q3 n), q2⟩
/-- an object of the heap that no slot holds is known for good -/
theorem Agr.known (g : Agr K T e σ F H) {o : HO} (h : H a = some o) (n : F a = none) (no : ¬ Own e σ a) (nt : ∀ ps, o ≠ .tbl ps) : Agr K T e σ (upd F a o) H := by
  have ff : Same F (upd F a o) := fun b u q => by rw [upd_ne (ne_of_none q n)]; exact q
  refine ⟨g.len, fun i s hs => ?_, g.dis, fun b u q => ?_, fun b ps q => ?_, g.tab⟩
  · obtain ⟨o', h1, h2⟩ := g.slots i s hs
    refine ⟨o', h1, h2.mono ff fun b ys hy e1 => ⟨rfl, ?_⟩⟩
    subst e1
    have nb : b ≠ a := fun z => no (z ▸ ⟨i, s, ys, hs, hy, h1⟩)
    rw [upd_ne nb]
    exact (g.own_at ⟨i, s, ys, hs, hy, h1⟩).1
  · by_cases hb : b = a
    · subst hb
      rw [upd_same] at q
      cases q
      exact h
    · rw [upd_ne hb] at q
      exact g.sub b u q
  · by_cases hb : b = a
    · subst hb
      rw [upd_same] at q
      cases q
      exact nt ps rfl
    · rw [upd_ne hb] at q
      exact g.noT b ps q
theorem Step.new (s : Step K T e σ F H e' σ' F' H') {o : HO} (n : H' a = none) : Step K T e σ F H e' σ' F' (upd H' a o) := by
  have kn : ∀ b u, H' b = some u → upd H' a o b = some u := fun b u q => by rw [upd_ne (ne_of_none q n)]; exact q
  refine ⟨s.ff, fun b u h no nt => kn b u (s.keep b u h no nt), s.out, s.own, s.agr.new n, s.io, fun b h => ?_⟩
  cases q : H' b with
  | none => exact absurd q (s.there b h)
  | some u => rw [kn b u q]; simp
/-- an object that did not stand at the start (or that a slot held then) is known for good -/
theorem Step.known (s : Step K T e σ F H e' σ' F' H') {o : HO} (h : H' a = some o) (n : F' a = none) (no : ¬ Own e' σ' a) (nt : ∀ ps, o ≠ .tbl ps) (new : H a = none ∨ Own e σ a) : Step K T e σ F H e' σ' (upd F' a o) H' := by
  refine ⟨s.ff.trans fun b u q => by rw [upd_ne (ne_of_none q n)]; exact q, s.keep, fun b u q f no' => ?_, s.own, s.agr.known h n no nt, s.io, s.there⟩
  have nb : b ≠ a := fun z => by
    subst z
    rcases new with z | z
    · rw [q] at z; cases z
    · exact no' z
  rw [upd_ne nb]
  exact s.out b u q f no'
theorem Step.newKnown (s : Step K T e σ F H e' σ' F' H') {o : HO} (n : H' a = none) (nt : ∀ ps, o ≠ .tbl ps) : Step K T e σ F H e' σ' (upd F' a o) (upd H' a o) := by
  have fa : F' a = none := s.agr.sub.free n
  refine (s.new (o := o) n).known upd_same fa (fun z => ?_) nt (.inl ?_)
  · obtain ⟨_, vs, q⟩ := s.agr.own_at z
    rw [n] at q
    cases q
  · cases q : H a with
    | none => rfl
    | some u => exact absurd n (s.there a (by rw [q]; simp))
/-- more objects that nobody here knows of -/
theorem Step.more (s : Step K T e σ F H e' σ' F' H') (x : Same H' H'') : Step K T e σ F H e' σ' F' H'' := by
  refine ⟨s.ff, fun a o q n nt => x a o (s.keep a o q n nt), s.out, s.own, ⟨s.agr.len, fun i t q => ?_, s.agr.dis, s.agr.sub.trans x, s.agr.noT, ⟨s.agr.tab.ok.ext x⟩⟩, s.io, fun a q z => s.there a q (x.free z)⟩
  obtain ⟨o, h1, h2⟩ := s.agr.slots i t q
  refine ⟨o, h1, h2.mono (Same.refl F') fun a xs hs ho => ?_⟩
  obtain ⟨b, vs, k1, k2, k3, k4⟩ := s.agr.holds q hs
  rw [h1, ho] at k1
  cases k1
  exact ⟨(x a _ k3).trans k3.symm, k2⟩
theorem same_upd {o : HO} (n : F a = none) : Same F (upd F a o) := fun b u q => by rw [upd_ne (ne_of_none q n)]; exact q
theorem quiet_upd {o : HO} (n : H a = none) : Quiet H (upd H a o) := fun b u q _ => by rw [upd_ne (ne_of_none q n)]; exact q
theorem Quiet.of (h : Same H H') : Quiet H H' := fun a o q _ => h a o q

/-! ### what is held stays held through a further run -/
theorem Res.step {x : D × Fl} (h : Res K e σ H e' σ' F' H' x v) (t : Step K T e' σ' F' H' e'' σ'' F'' H'') (sg : σ'' = σ') (q : x.2.isBr = true → Quiet H' H'') : Res K e σ H e'' σ'' F'' H'' x v := by
  obtain ⟨d, f⟩ := x
  cases f with
  | val => exact Dp.mono t.ff h
  | xt => exact ⟨Dp.mono t.ff h.1, h.2.mono t.ff⟩
  | x1 => exact ⟨Dp.mono t.ff h.1, h.2.mono t.ff⟩
  | fr =>
    obtain ⟨xs, a, vs, h1, h2, h3, h4, h5, h6, h7⟩ := h
    refine ⟨xs, a, vs, h1, h2, t.out a _ h4 h3 h6, t.keep a _ h4 h6 (by intro ps z; cases z), DpAll.mono t.ff h5, fun z => ?_, h7⟩
    rcases t.own a z with z | z
    · exact h6 z
    · rw [h4] at z; cases z
  | br i =>
    obtain ⟨xs, a, vs, h1, h2, h3, h4, h5⟩ := h
    exact ⟨xs, a, vs, h1, h2, q rfl a _ h3 (by intro ps z; cases z), DpAll.mono t.ff h4, by rw [sg]; exact h5⟩
/-- a new list is given up: it is known for good -/
theorem Res.keep {x : D × Fl} (h : Res K e σ H e' σ' F' H' x v) (s : Step K T e σ F H e' σ' F' H') (n : x.2.isBr = false) : ∃ F2, Step K T e σ F H e' σ' F2 H' ∧ Dp K F2 v x.1 ∧ Same F' F2 := by
  obtain ⟨d, f⟩ := x
  cases f with
  | val => exact ⟨F', s, h, Same.refl _⟩
  | xt => exact ⟨F', s, h.1, Same.refl _⟩
  | x1 => exact ⟨F', s, h.1, Same.refl _⟩
  | fr =>
    obtain ⟨xs, a, vs, rfl, rfl, h3, h4, h5, h6, h7⟩ := h
    exact ⟨upd F' a (.lst vs), s.known h4 h3 h6 (by intro ps z; cases z) h7, .lst (.of upd_same) (DpAll.mono (same_upd h3) h5), same_upd h3⟩
  | br i => cases n
/-- slots forgotten or told otherwise, the rest as it was -/
theorem Agr.setEmp (g : Agr K T e σ F H) (i : Nat) : Agr K T (e.set i .emp) σ F H := by
  refine ⟨by rw [List.length_set]; exact g.len, fun j s h => ?_, fun j k s t xs ys h1 h2 h3 h4 ne => ?_, g.sub, g.noT, g.tab⟩
  · by_cases hj : i = j
    · subst hj
      rw [List.getElem?_set] at h
      simp only [if_true] at h
      split at h
      · rename_i lt
        cases h
        have l2 : i < σ.length := by rw [← g.len]; exact lt
        exact ⟨σ[i], by simp [l2], trivial⟩
      · cases h
    · rw [List.getElem?_set_ne hj] at h
      exact g.slots j s h
  · have a1 : i ≠ j := fun z => by
      subst z
      rw [List.getElem?_set] at h1
      simp only [if_true] at h1
      split at h1
      · cases h1; cases h3
      · cases h1
    have a2 : i ≠ k := fun z => by
      subst z
      rw [List.getElem?_set] at h2
      simp only [if_true] at h2
      split at h2
      · cases h2; cases h4
      · cases h2
    rw [List.getElem?_set_ne a1] at h1
    rw [List.getElem?_set_ne a2] at h2
    exact g.dis j k s t xs ys h1 h2 h3 h4 ne
theorem get_set {α : Type} {l : List α} {i j : Nat} {x y : α} (h : (l.set i x)[j]? = some y) : (j = i ∧ y = x) ∨ (j ≠ i ∧ l[j]? = some y) := by
  by_cases hj : i = j
  · subst hj
    rw [List.getElem?_set] at h
    simp only [if_true] at h
    split at h
    · cases h
      exact .inl ⟨rfl, rfl⟩
    · cases h
  · rw [List.getElem?_set_ne hj] at h
    exact .inr ⟨fun z => hj z.symm, h⟩
/-- a list that a name alone holds is given up: known for good -/
theorem Step.freeze (s : Step K T e σ F H e' σ' F' H') {i : Nat} (h : e'[i]? = some (.own xs)) : ∃ F2 a, Step K T e σ F H (e'.set i (.val (.list xs))) σ' F2 H' ∧ σ'[i]? = some (some (.ref a)) ∧ Dp K F2 (.ref a) (.list xs) ∧ Same F' F2 := by
  obtain ⟨a, vs, h1, h2, h3, h4⟩ := s.agr.holds h rfl
  have no : ¬ Own (e'.set i .emp) σ' a := fun ⟨j, t, ys, q1, q2, q3⟩ => by
    rcases get_set q1 with ⟨_, z⟩ | ⟨ne, q⟩
    · subst z; cases q2
    · exact s.agr.dis i j _ t xs ys h q rfl q2 (fun z => ne z.symm) (h1.trans q3.symm)
  have g1 : Agr K T (e'.set i .emp) σ' (upd F' a (.lst vs)) H' := (s.agr.setEmp i).known h3 h2 no (by intro ps z; cases z)
  have hd : Dp K (upd F' a (.lst vs)) (.ref a) (.list xs) := .lst (.of upd_same) (DpAll.mono (same_upd h2) h4)
  have li : i < e'.length := (List.getElem?_eq_some_iff.mp h).1
  have emp : ∀ j t, j ≠ i → e'[j]? = some t → (e'.set i .emp)[j]? = some t := fun j t ne q => by rw [List.getElem?_set_ne (fun z => ne z.symm)]; exact q
  have oa : Own e' σ' a := ⟨i, _, xs, h, rfl, h1⟩
  refine ⟨upd F' a (.lst vs), a, ⟨s.ff.trans (same_upd h2), s.keep, fun b u q f no' => ?_, fun b z => ?_, ⟨?_, fun j t q => ?_, fun j k t u xs ys q1 q2 q3 q4 ne => ?_, g1.sub, g1.noT, g1.tab⟩, fun j ys q => ?_, s.there⟩, h1, hd, same_upd h2⟩
  · have nb : b ≠ a := fun z => by
      subst z
      rcases s.own b oa with z | z
      · exact no' z
      · rw [q] at z; cases z
    rw [upd_ne nb]
    exact s.out b u q f no'
  · obtain ⟨j, t, ys, q1, q2, q3⟩ := z
    rcases get_set q1 with ⟨_, z⟩ | ⟨ne, q⟩
    · subst z; cases q2
    · exact s.own b ⟨j, t, ys, q, q2, q3⟩
  · rw [List.length_set]
    exact s.agr.len
  · rcases get_set q with ⟨rfl, rfl⟩ | ⟨ne, q⟩
    · exact ⟨_, h1, _, rfl, hd⟩
    · exact g1.slots j t (emp j t ne q)
  · rcases get_set q1 with ⟨_, z⟩ | ⟨n1, q1⟩
    · subst z; cases q3
    · rcases get_set q2 with ⟨_, z⟩ | ⟨n2, q2⟩
      · subst z; cases q4
      · exact s.agr.dis j k t u xs ys q1 q2 q3 q4 ne
  · obtain ⟨⟨zs, q1⟩, q2⟩ := s.io j ys q
    have ne : j ≠ i := fun z => by
      subst z
      rw [h] at q1
      cases q1
    exact ⟨⟨zs, by rw [List.getElem?_set_ne (fun z => ne z.symm)]; exact q1⟩, q2⟩
end
end TI

set_option Elab.async false
set_option autoImplicit false
set_option maxRecDepth 100000
set_option linter.all false
/-! TI3: what a text's expressions must look like; the frame in which they run. -/
namespace TI
open PySem L2
/-! ### plain facts of the texts -/
def plainX : Expr → Bool
  | .Starred _ _ => false
  | _ => true
theorem star_cons {x : Expr} {xs : List Expr} {env : Env} (h : plainX x = true) : starEach (x :: xs) env = (false, eval x env) :: starEach xs env := by
  cases x <;> first | rfl | (cases h)
theorem star_plain {xs : List Expr} {env : Env} (h : xs.all plainX = true) : ∀ p ∈ starEach xs env, p.1 = false := by
  induction xs with
  | nil => intro p hp; simp [starEach] at hp
  | cons x xs ih =>
    rw [List.all_cons, Bool.and_eq_true] at h
    intro p hp
    rw [star_cons h.1] at hp
    rcases List.mem_cons.mp hp with rfl | hp
    · rfl
    · exact ih h.2 p hp
theorem back_plain {xs : List Expr} {env : Env} {pos : Pos} (h : xs.all plainX = true) : (backTo pos (starEach xs env)).any (·.1) = false := by
  unfold backTo
  rw [List.any_map]
  rw [Bool.eq_false_iff]
  intro z
  rw [List.any_eq_true] at z
  obtain ⟨p, hp, q⟩ := z
  have := star_plain h p hp
  simp [this] at q
theorem back_all {xs : List Expr} {env : Env} {pos : Pos} (h : xs.all plainX = true) : (backTo pos (starEach xs env)).all (fun x => !x.1) = true := by
  unfold backTo
  rw [List.all_map, List.all_eq_true]
  intro p hp
  have := star_plain h p hp
  simp [this]
def noSuper : Expr → Bool
  | .Call (.Name id _) [] [] _ => id != "super"
  | _ => true
theorem base_plain {o : Expr} {n : Str} {env : Env} (h : noSuper o = true) : attributeBase o n env (eval o env) = eval o env := by
  unfold attributeBase
  split
  · rename_i id _ _
    have h' : (id != ("super" : Str)) = true := h
    rw [h']
    simp only [Bool.true_or]
    rfl
  · rfl
def noComp : Expr → Bool
  | .ListComp .. => false
  | .SetComp .. => false
  | .DictComp .. => false
  | _ => true
theorem swaps_plain {e : Expr} {t : Option Expr} {l : Nat} {env : Env} (h : noComp e = true) : swapsWith e t l env = Pure.pure false := by
  unfold swapsWith
  cases e <;> first | rfl | (cases h)
def noSet : Expr → Bool
  | .Set .. => false
  | _ => true
theorem folded_plain {e : Expr} {env : Env} {x : Value} (h : noSet e = true) : foldedSetIterable e env x = Pure.pure x := by
  unfold foldedSetIterable
  cases e <;> first | rfl | (cases h)
theorem behind_plain {e : Expr} {op : CmpOp} (h : noSet e = true) : behindInMarks op e = false := by
  cases e <;> first | rfl | (cases h)
def noSlice : Expr → Bool
  | .Slice .. => false
  | _ => true
theorem ix_plain {e : Expr} (h : noSlice e = true) : PlainIx e := by
  intro o i
  unfold subscripted
  cases e <;> first | rfl | (cases h)
/-- a test that is its value's truth -/
def testX : Expr → Bool
  | .UnaryOp .Not _ _ => false
  | .BoolOp .. => false
  | .IfExp .. => false
  | .Compare .. => false
  | _ => true
theorem test_plain {e : Expr} {env : Env} (h : testX e = true) : ∀ whole, isTrue e env whole = (do let v ← whole; standAt e.pos; holding [v] (truthy v)) := by
  intro whole
  cases e <;> first | rfl | (cases h; done) | (rename_i op _ _; cases op <;> first | rfl | cases h)
/-- names -/
def visB (sc : Scope) (x : Str) : Bool := match sc.names.lookup x with
  | some .local => true
  | some .cell => true
  | some .free => true
  | _ => false
theorem visB_ok {sc : Scope} {x : Str} (h : visB sc x = true) : Vis sc x := by
  unfold visB at h
  split at h
  · exact .inl (by assumption)
  · exact .inr (.inl (by assumption))
  · exact .inr (.inr (by assumption))
  · cases h
def locB (sc : Scope) (x : Str) : Bool := match sc.names.lookup x with
  | some .local => true
  | some .cell => true
  | _ => false
theorem locB_ok {sc : Scope} {x : Str} (h : locB sc x = true) : Loc sc x := by
  unfold locB at h
  split at h
  · exact .inl (by assumption)
  · exact .inr (by assumption)
  · cases h
def glB (sc : Scope) (x : Str) : Bool := decide (sc.names.lookup x = some .globalImplicit) && !(x == ("__debug__" : Str))
theorem glB_ok {X : Cx} {x : Str} (h : glB X.env.scope x = true) : Gl X x ∧ (x == ("__debug__" : Str)) = false := by
  unfold glB at h
  obtain ⟨h1, h2⟩ := Bool.and_eq_true_iff.mp h
  exact ⟨of_decide_eq_true (p := X.env.scope.names.lookup x = some .globalImplicit) h1, by simpa using h2⟩

/-! ### the text of an expression -/
/-- .. where no lambda may be made -/
@[reducible] def Nm.off (w : Nm) : Nm := { w with lam := false }
def noArgs : Arguments := { posonlyargs := [], args := [], vararg := none, kwonlyargs := [], kw_defaults := [], kwarg := none, defaults := [] }
/-- a lambda without arguments -/
def isNoArgs : Arguments → Bool
  | ⟨[], [], none, [], [], none, []⟩ => true
  | _ => false
def binA : BinO → Operator
  | .add => .Add | .sub => .Sub | .mul => .Mult | .fdiv => .FloorDiv | .mod => .Mod | .pow => .Pow | .shl => .LShift
def cmpA : CmpO → CmpOp
  | .eq => .Eq | .ne => .NotEq | .lt => .Lt | .le => .LtE | .gt => .Gt | .ge => .GtE | .is => .Is | .isnot => .IsNot | .isin => .In | .notin => .NotIn
def biA : BI → Str
  | .len => "len" | .sum => "sum" | .max1 => "max" | .max2 => "max" | .max3 => "max" | .min2 => "min" | .int1 => "int" | .tuple1 => "tuple" | .list1 => "list"
  | .sorted1 => "sorted" | .sortedset => "sorted" | .all1 => "all" | .gcd => "gcd" | .listR => "list" | .tupleR => "tuple"
def biN : BI → Nat
  | .max2 | .min2 | .gcd => 2
  | .max3 => 3
  | _ => 1
def tyA : TyN → Str
  | .int => "int" | .bool => "bool" | .str => "str" | .tuple => "tuple" | .list => "list" | .dict => "dict"
def mtA : MT → Str
  | .index => "index" | .bitlen => "bit_length" | .join => "join"
def conD : Const → Option D
  | .none => some .none
  | .bool b => some (.bool b)
  | .int i => some (.int i)
  | .str x => some (.str x)
  | _ => none
def conOk (d : D) (c : Const) : Bool := match d, c with
  | .none, .none => true
  | .bool a, .bool b => a == b
  | .int a, .int b => decide (a = b)
  | .str a, .str b => decide (a = b)
  | _, _ => false
def isNoneX : Expr → Bool
  | .Constant .none _ _ => true
  | _ => false
def isNoneI : IE → Bool
  | .lit .none => true
  | _ => false
def isNil : IE → Bool
  | .nil => true
  | _ => false
def nodupB (l : List Str) : Bool := match l with
  | [] => true
  | a :: r => !r.contains a && nodupB r
section
variable (w : Nm) (N : List Str)
/-- a target of names -/
def chkT (sc : Scope) : IE → Expr → Bool
  | .var i, .Name x _ => decide (N[i]? = some x) && locB sc x
  | .tup es, .Tuple xs _ _ => chkTs sc es xs
  | _, _ => false
where chkTs (sc : Scope) : IE → List Expr → Bool
  | .nil, [] => true
  | .cons t r, x :: xs => chkT sc t x && chkTs sc r xs
  | _, _ => false
/-- the names' places that a target stores -/
def tgts : IE → List Nat
  | .var i => [i]
  | .tup es => tgts es
  | .cons a b => tgts a ++ tgts b
  | _ => []
/-- what gives new pairs wants a target of several names -/
def okTg (it tg : IE) : Bool := match it with
  | .enumr _ => (match tg with | .tup _ => true | _ => false)
  | .zipp _ _ => (match tg with | .tup _ => true | _ => false)
  | _ => true
/-- as a test: what is no 'a if t else b' -/
def chkB : IE → Bool
  | .ite _ _ _ => false
  | _ => true
end
mutual
def chkE (w : Nm) (N : List Str) (sc : Scope) : IE → Expr → Bool
  | .var i, .Name x _ => decide (N[i]? = some x) && visB sc x && !(x == ("__debug__" : Str)) && !(x == ("__classdict__" : Str))
  | .glob i, .Name x _ => decide (w.cn[i]? = some x) && glB sc x
  | .lit d, .Constant c _ _ => conOk d c
  | .bin o a b, .BinOp x op y _ => decide (op = binA o) && chkE w N sc a x && chkE w N sc b y
  | .neg a, .UnaryOp op x _ => decide (op = .USub) && chkE w N sc a x
  | .notE a, .UnaryOp op x _ => decide (op = .Not) && chkE w N sc a x && chkB a
  | .andE a b, .BoolOp op (x :: y :: r) p => decide (op = .And) && chkE w N sc a x && chkB a && (match r with
      | [] => chkE w N sc b y && chkB b
      | _ => chkE w N sc b (.BoolOp .And (y :: r) p))
  | .orE a b, .BoolOp op (x :: y :: r) p => decide (op = .Or) && chkE w N sc a x && chkB a && (match r with
      | [] => chkE w N sc b y && chkB b
      | _ => chkE w N sc b (.BoolOp .Or (y :: r) p))
  | .ite t a b, .IfExp x y z _ => chkE w N sc t x && chkB t && chkE w N sc a y && chkE w N sc b z
  | .cmp o a b, .Compare x ops ys _ => (match ops, ys with
      | [op], [y] => decide (op = cmpA o) && noSet y && chkE w N sc a x && chkE w N sc b y
      | _, _ => false)
  | .chain o o' a b c, .Compare x ops ys _ => (match ops, ys with
      | [op, op'], [y, z] => decide (op = cmpA o) && decide (op' = cmpA o') && noSet y && noSet z && chkE w N sc a x && chkE w N sc b y && chkE w N sc c z
      | _, _ => false)
  | .tup es, .Tuple xs _ _ => chkS w N sc es xs && xs.all plainX
  | .lst es, .List xs _ => chkS w N sc es xs && xs.all plainX
  | .tmul es k, .BinOp x op y _ => (match x with
      | .Tuple xs _ _ => decide (op = .Mult) && chkS w N sc es xs && xs.all plainX && chkE w N sc k y
      | _ => false)
  | .ix a b, .Subscript x y _ => noSlice y && chkE w N sc a x && chkE w N sc b y
  | .slice a lo hi, .Subscript x s _ => (match s with
      | .Slice l h none _ => chkE w N sc a x && (match l with
        | none => isNil lo
        | some y => !isNil lo && chkE w N sc lo y) && (match h with
        | none => isNil hi
        | some y => !isNil hi && chkE w N sc hi y)
      | _ => false)
  | .rev a, .Subscript x s _ => (match s with
      | .Slice none none (some (.UnaryOp .USub (.Constant (.int 1) _ _) _)) _ => chkE w N sc a x
      | _ => false)
  | .call f es, .Call g xs ks _ => (match g, ks with
      | .Name x _, [] => decide (w.fn[f]? = some x) && glB sc x && chkS w N sc es xs && xs.all plainX && !xs.isEmpty
      | _, _ => false)
  | .bi b es, .Call g xs ks _ => (match g, ks with
      | .Name x _, [] => decide (x = biA b) && glB sc x && xs.all plainX && (match b with
        | .sortedset => (match xs with
          | [.Call (.Name y _) ys [] _] => decide (y = "set") && glB sc y && chkS w N sc es ys && ys.all plainX && decide (ys.length = 1)
          | _ => false)
        | .listR => (match xs with
          | [.Call (.Name y _) ys [] _] => decide (y = "range") && glB sc y && chkS w N sc es ys && ys.all plainX && decide (ys.length = 1)
          | _ => false)
        | .tupleR => (match xs with
          | [.Call (.Name y _) ys [] _] => decide (y = "range") && glB sc y && chkS w N sc es ys && ys.all plainX && decide (ys.length = 1)
          | _ => false)
        | _ => chkS w N sc es xs && decide (xs.length = biN b))
      | _, _ => false)
  | .mt k o es, .Call g xs ks pos => (match g, ks with
      | .Attribute x n apos, [] => decide (n = mtA k) && chkE w N sc o x && chkS w N sc es xs && xs.all plainX && noSuper x && (apos.endLine == pos.line) && (match k with
        | .bitlen => xs.isEmpty
        | .index => decide (xs.length = 1)
        | .join => false)
      | _, _ => false)
  | .pop i, .Call g xs ks pos => (match g, xs, ks with
      | .Attribute (.Name x _) n apos, [], [] => decide (n = ("pop" : Str)) && decide (N[i]? = some x) && visB sc x && !(x == ("__debug__" : Str)) && !(x == ("__classdict__" : Str)) && (apos.endLine == pos.line)
      | _, _, _ => false)
  | .popAt i k, .Call g xs ks pos => (match g, xs, ks with
      | .Attribute (.Name x _) n apos, [y], [] => decide (n = ("pop" : Str)) && decide (N[i]? = some x) && visB sc x && !(x == ("__debug__" : Str)) && !(x == ("__classdict__" : Str)) && (apos.endLine == pos.line) && plainX y && chkE w N sc k y
      | _, _, _ => false)
  | .isi a ty, .Call g xs ks _ => (match g, xs, ks with
      | .Name f _, [x, .Name y _], [] => decide (f = ("isinstance" : Str)) && glB sc f && decide (y = tyA ty) && glB sc y && plainX x && chkE w N sc a x
      | _, _, _ => false)
  | .comp tg it ifs elt own, .ListComp x gs cs _ => (match gs with
      | [⟨t, i, fs, 0⟩] => chkE w N sc it i && noSet i && okTg it tg && blkC N sc cs (own.map fun j => (N.getD j "", j)) && decide (tgts tg = own) && chkT N cs tg t && (match fs with
        | [] => isNil ifs
        | [f] => !isNil ifs && chkE w.off N (relS cs sc) ifs f && chkB ifs
        | _ => false) && chkE w.off N (relS cs sc) elt x && pure elt && pure ifs
      | _ => false)
  | .range1 a, .Call g xs ks _ => (match g, xs, ks with
      | .Name f _, [x], [] => decide (f = ("range" : Str)) && glB sc f && plainX x && chkE w N sc a x
      | _, _, _ => false)
  | .range2 a b, .Call g xs ks _ => (match g, xs, ks with
      | .Name f _, [x, y], [] => decide (f = ("range" : Str)) && glB sc f && plainX x && plainX y && chkE w N sc a x && chkE w N sc b y
      | _, _, _ => false)
  | .enumr a, .Call g xs ks _ => (match g, xs, ks with
      | .Name f _, [x], [] => decide (f = ("enumerate" : Str)) && glB sc f && plainX x && chkE w N sc a x
      | _, _, _ => false)
  | .zipp a b, .Call g xs ks _ => (match g, xs, ks with
      | .Name f _, [x, y], [] => decide (f = ("zip" : Str)) && glB sc f && plainX x && plainX y && chkE w N sc a x && chkE w N sc b y
      | _, _, _ => false)
  | .tup1 a i, .Tuple xs _ _ => (match xs with
      | [x, .Name y _] => chkE w N sc a x && plainX x && decide (N[i]? = some y) && visB sc y && !(y == ("__debug__" : Str)) && !(y == ("__classdict__" : Str))
      | _ => false)
  | .ix1 i, .Subscript x s _ => (match x, s with
      | .Name y _, .Constant c _ _ => decide (N[i]? = some y) && visB sc y && !(y == ("__debug__" : Str)) && !(y == ("__classdict__" : Str)) && conOk (.int 1) c
      | _, _ => false)
  | .tupx a, .Call g xs ks _ => (match g, xs, ks with
      | .Name f _, [x], [] => decide (f = ("tuple" : Str)) && glB sc f && plainX x && chkE w N sc a x
      | _, _, _ => false)
  | .told ns a, .Call g xs ks _ => (match g, xs, ks with
      | .Name f _, [.Lambda ps x cs _], [] => w.lam && decide (ns = w.tn) && decide (f = ("_law_told_by" : Str)) && glB sc f && isNoArgs ps && LamX.lamSB sc cs && chkE w.off N cs a x
      | _, _, _ => false)
  | _, _ => false
termination_by structural x => x
/-- several -/
def chkS (w : Nm) (N : List Str) (sc : Scope) : IE → List Expr → Bool
  | .nil, [] => true
  | .cons a r, x :: xs => (match a with
      | .ioarg i => (match x with
        | .Name y _ => decide (N[i]? = some y) && visB sc y && !(y == ("__debug__" : Str)) && !(y == ("__classdict__" : Str))
        | _ => false)
      | a => chkE w N sc a x) && chkS w N sc r xs
  | _, _ => false
termination_by structural x => x
end
end TI

set_option Elab.async false
set_option autoImplicit false
set_option maxRecDepth 100000
set_option linter.all false
/-! TI4: what a run of trees promises of a run of the text; sequencing. -/
namespace TI
open PySem L2
section
variable (K : PySem.W.Frag) (T : List (Addr × Str)) (cls : Nat → Addr) (W : WX)
/-- what is wanted behind an evaluation that comes to r -/
def GoodE (q : Bool) (r : Out (D × Fl)) (e : En) (σ : L2.St) (F H : Hp) (Q : VK) : Prop := match r with
  | .ok x e' => ∀ F' H' v, Step K T e σ F H e' σ F' H' → Res K e σ H e' σ F' H' x v → (q = true → Quiet H H') → Q v H'
  | .exc c d e' => ∀ F' H' dx v, Step K T e σ F H e' σ F' H' → H' dx = some (.xd [(("what" : Str), v)]) → Dp K F' v d → W (.ref (cls c)) (some dx) σ H'
  | .stuck => False
def GoodB (q : Bool) (r : Out Bool) (e : En) (σ : L2.St) (F H : Hp) (Q : Bool → Hp → Prop) : Prop := match r with
  | .ok b e' => ∀ F' H', Step K T e σ F H e' σ F' H' → (q = true → Quiet H H') → Q b H'
  | .exc c d e' => ∀ F' H' dx v, Step K T e σ F H e' σ F' H' → H' dx = some (.xd [(("what" : Str), v)]) → Dp K F' v d → W (.ref (cls c)) (some dx) σ H'
  | .stuck => False
/-- .. of a list of trees; kept ones, or read on the spot -/
def GoodL (q : Bool) (R : Hp → Hp → List V → List D → Prop) (r : Out (List D)) (e : En) (σ : L2.St) (F H : Hp) (Q : List V → Hp → Prop) : Prop := match r with
  | .ok ds e' => ∀ F' H' vs, Step K T e σ F H e' σ F' H' → R F' H' vs ds → (q = true → Quiet H H') → Q vs H'
  | .exc c d e' => ∀ F' H' dx v, Step K T e σ F H e' σ F' H' → H' dx = some (.xd [(("what" : Str), v)]) → Dp K F' v d → W (.ref (cls c)) (some dx) σ H'
  | .stuck => False
/-- values read on the spot -/
inductive Tops (K : PySem.W.Frag) (F H : Hp) : List V → List D → Prop
  | nil : Tops K F H [] []
  | cons {v : V} {d : D} {vs : List V} {ds : List D} : Top K F H v d → Tops K F H vs ds → Tops K F H (v :: vs) (d :: ds)
/-- a def's arguments -/
inductive ArgsOk (K : PySem.W.Frag) (e : En) (σ : L2.St) (F : Hp) : IE → List Slot → List V → Prop
  | nil : ArgsOk K e σ F .nil [] []
  | val {h t : IE} {s : Slot} {v : V} {ss : List Slot} {vs : List V} : ((held s = none ∧ s ≠ .emp) ∧ ∀ H, SlotOk K F H s (some v)) → (∀ i, h ≠ .ioarg i) → ArgsOk K e σ F t ss vs → ArgsOk K e σ F (.cons h t) (s :: ss) (v :: vs)
  | io {t : IE} {i : Nat} {s : Slot} {xs : List D} {a : Addr} {ss : List Slot} {vs : List V} : e[i]? = some s → held s = some xs → σ[i]? = some (some (.ref a)) → ioIn i t = false → ArgsOk K e σ F t ss vs →
      ArgsOk K e σ F (.cons (.ioarg i) t) (.io xs :: ss) (.ref a :: vs)
def GoodA (q : Bool) (es : IE) (r : Out (List Slot)) (e : En) (σ : L2.St) (F H : Hp) (Q : List V → Hp → Prop) : Prop := match r with
  | .ok ss e' => ∀ F' H' vs, Step K T e σ F H e' σ F' H' → ArgsOk K e' σ F' es ss vs → (q = true → Quiet H H') → Q vs H'
  | .exc c d e' => ∀ F' H' dx v, Step K T e σ F H e' σ F' H' → H' dx = some (.xd [(("what" : Str), v)]) → Dp K F' v d → W (.ref (cls c)) (some dx) σ H'
  | .stuck => False
variable (Φ : Fun) (C : List D)
def tE (m : Md) (ie : IE) : TE := fun σ H Q => ∃ e F, Agr K T e σ F H ∧ GoodE K T cls W (pure ie) (evalE Φ C ie m e) e σ F H Q
def tT (ie : IE) : TT := fun σ H Q => ∃ e F, Agr K T e σ F H ∧ GoodB K T cls W (pure ie) (asB (evalE Φ C ie .t e)) e σ F H Q
def tK (ie : IE) : TA := fun σ H Q => ∃ e F, Agr K T e σ F H ∧ GoodL K T cls W (pure ie) (fun F' _ vs ds => DpAll K F' vs ds) (evalK Φ C ie e) e σ F H Q
def tB (ie : IE) : TA := fun σ H Q => ∃ e F, Agr K T e σ F H ∧ GoodL K T cls W (pure ie) (Tops K) (evalB Φ C ie e) e σ F H Q
def tA (ie : IE) : TA := fun σ H Q => ∃ e F, Agr K T e σ F H ∧ GoodA K T cls W (pure ie) ie (evalA Φ C ie e) e σ F H Q
end
section
variable {K : PySem.W.Frag} {T : List (Addr × Str)} {cls : Nat → Addr} {W : WX} {q q1 : Bool} {e e1 e2 : En} {σ : L2.St} {F F1 F2 H H1 H2 : Hp} {Q : VK}
/-- a def's promise -/
def GoodF (K : PySem.W.Frag) (T : List (Addr × Str)) (cls : Nat → Addr) (E : XK) (r : Out (D × Fl)) (e : En) (σ : L2.St) (F H : Hp) (Q : VK) : Prop := match r with
  | .ok x e' => ∀ F' H' v, Step K T e σ F H e' σ F' H' → Res K e σ H e' σ F' H' x v → Q v H'
  | .exc c d e' => ∀ F' H' dx v, Step K T e σ F H e' σ F' H' → H' dx = some (.xd [(("what" : Str), v)]) → Dp K F' v d → E (.ref (cls c)) (some dx) H'
  | .stuck => False
def spF (K : PySem.W.Frag) (T : List (Addr × Str)) (cls : Nat → Addr) (Φ : Fun) (f np : Nat) : Sp := fun vs H Q E => ∃ ss F, vs.length = np ∧ Agr K T ss (vs.map some) F H ∧ GoodF K T cls E (Φ f ss) ss (vs.map some) F H Q

/-- what follows on an evaluation, from the start's point of view -/
theorem good_seq {r : Out (D × Fl)} {g : D × Fl → En → Out (D × Fl)} (s : Step K T e σ F H e1 σ F1 H1) (h : GoodE K T cls W q (r.bind g) e σ F H Q) :
    GoodE K T cls W q1 r e1 σ F1 H1 (fun v H2 => ∃ x e2 F2, r = .ok x e2 ∧ Step K T e1 σ F1 H1 e2 σ F2 H2 ∧ Res K e1 σ H1 e2 σ F2 H2 x v ∧ (q1 = true → Quiet H1 H2) ∧ GoodE K T cls W q (g x e2) e σ F H Q) := by
  cases r with
  | ok x e2 => exact fun F2 H2 v s2 r2 q2 => ⟨x, e2, F2, rfl, s2, r2, q2, h⟩
  | exc c d e2 => exact fun F2 H2 dx v s2 => h F2 H2 dx v (s.trans s2)
  | stuck => exact h
theorem good_seqB {r : Out Bool} {g : Bool → En → Out (D × Fl)} (s : Step K T e σ F H e1 σ F1 H1) (h : GoodE K T cls W q (r.bind g) e σ F H Q) :
    GoodB K T cls W q1 r e1 σ F1 H1 (fun b H2 => ∃ e2 F2, r = .ok b e2 ∧ Step K T e1 σ F1 H1 e2 σ F2 H2 ∧ (q1 = true → Quiet H1 H2) ∧ GoodE K T cls W q (g b e2) e σ F H Q) := by
  cases r with
  | ok x e2 => exact fun F2 H2 s2 q2 => ⟨e2, F2, rfl, s2, q2, h⟩
  | exc c d e2 => exact fun F2 H2 dx v s2 => h F2 H2 dx v (s.trans s2)
  | stuck => exact h
theorem good_seqL {R : Hp → Hp → List V → List D → Prop} {r : Out (List D)} {g : List D → En → Out (D × Fl)} (s : Step K T e σ F H e1 σ F1 H1) (h : GoodE K T cls W q (r.bind g) e σ F H Q) :
    GoodL K T cls W q1 R r e1 σ F1 H1 (fun vs H2 => ∃ ds e2 F2, r = .ok ds e2 ∧ Step K T e1 σ F1 H1 e2 σ F2 H2 ∧ R F2 H2 vs ds ∧ (q1 = true → Quiet H1 H2) ∧ GoodE K T cls W q (g ds e2) e σ F H Q) := by
  cases r with
  | ok x e2 => exact fun F2 H2 vs s2 r2 q2 => ⟨x, e2, F2, rfl, s2, r2, q2, h⟩
  | exc c d e2 => exact fun F2 H2 dx v s2 => h F2 H2 dx v (s.trans s2)
  | stuck => exact h
theorem good_seqA {es : IE} {r : Out (List Slot)} {g : List Slot → En → Out (D × Fl)} (s : Step K T e σ F H e1 σ F1 H1) (h : GoodE K T cls W q (r.bind g) e σ F H Q) :
    GoodA K T cls W q1 es r e1 σ F1 H1 (fun vs H2 => ∃ ss e2 F2, r = .ok ss e2 ∧ Step K T e1 σ F1 H1 e2 σ F2 H2 ∧ ArgsOk K e2 σ F2 es ss vs ∧ (q1 = true → Quiet H1 H2) ∧ GoodE K T cls W q (g ss e2) e σ F H Q) := by
  cases r with
  | ok x e2 => exact fun F2 H2 vs s2 r2 q2 => ⟨x, e2, F2, rfl, s2, r2, q2, h⟩
  | exc c d e2 => exact fun F2 H2 dx v s2 => h F2 H2 dx v (s.trans s2)
  | stuck => exact h
theorem goodB_seq {r : Out Bool} {g : Bool → En → Out Bool} {QB : Bool → Hp → Prop} (s : Step K T e σ F H e1 σ F1 H1) (h : GoodB K T cls W q (r.bind g) e σ F H QB) :
    GoodB K T cls W q1 r e1 σ F1 H1 (fun b H2 => ∃ e2 F2, r = .ok b e2 ∧ Step K T e1 σ F1 H1 e2 σ F2 H2 ∧ (q1 = true → Quiet H1 H2) ∧ GoodB K T cls W q (g b e2) e σ F H QB) := by
  cases r with
  | ok x e2 => exact fun F2 H2 s2 q2 => ⟨e2, F2, rfl, s2, q2, h⟩
  | exc c d e2 => exact fun F2 H2 dx v s2 => h F2 H2 dx v (s.trans s2)
  | stuck => exact h
/-- from a later state's point of view -/
theorem goodE_cur {r : Out (D × Fl)} (s : Step K T e σ F H e1 σ F1 H1) (qq : q = true → Quiet H H1) (h : GoodE K T cls W q r e σ F H Q) (ok : ∀ x e2 F2 H2 v, r = .ok x e2 → Step K T e1 σ F1 H1 e2 σ F2 H2 → Res K e1 σ H1 e2 σ F2 H2 x v → Res K e σ H e2 σ F2 H2 x v) :
    GoodE K T cls W q r e1 σ F1 H1 Q := by
  cases r with
  | ok x e2 => exact fun F2 H2 v s2 r2 q2 => h F2 H2 v (s.trans s2) (ok x e2 F2 H2 v rfl s2 r2) fun z => (qq z).trans (q2 z)
  | exc c d e2 => exact fun F2 H2 dx v s2 => h F2 H2 dx v (s.trans s2)
  | stuck => exact h
theorem res_cur {x : D × Fl} {v : V} (s : Step K T e σ F H e1 σ F1 H1) (h : Res K e1 σ H1 e2 σ F2 H2 x v) : Res K e σ H e2 σ F2 H2 x v := by
  obtain ⟨d, f⟩ := x
  cases f with
  | val => exact h
  | xt => exact h
  | x1 => exact h
  | fr =>
    obtain ⟨xs, a, vs, h1, h2, h3, h4, h5, h6, h7⟩ := h
    refine ⟨xs, a, vs, h1, h2, h3, h4, h5, h6, ?_⟩
    rcases h7 with z | z
    · cases q : H a with
      | none => exact .inl rfl
      | some o => exact absurd z (s.there a (by rw [q]; simp))
    · exact (s.own a z).elim .inr .inl
  | br i => exact h
theorem good_imp {Q' : VK} {r : Out (D × Fl)} (h : GoodE K T cls W q r e σ F H Q) (hq : q1 = true → q = true) (i : ∀ v H', Q v H' → Q' v H') : GoodE K T cls W q r e σ F H Q' := by
  cases r with
  | ok x e2 => exact fun F2 H2 v s2 r2 q2 => i _ _ (h F2 H2 v s2 r2 q2)
  | exc c d e2 => exact h
  | stuck => exact h
theorem good_impL {R : Hp → Hp → List V → List D → Prop} {QL QL' : List V → Hp → Prop} {r : Out (List D)} (h : GoodL K T cls W q R r e σ F H QL) (i : ∀ v H', QL v H' → QL' v H') : GoodL K T cls W q R r e σ F H QL' := by
  cases r with
  | ok x e2 => exact fun F2 H2 v s2 r2 q2 => i _ _ (h F2 H2 v s2 r2 q2)
  | exc c d e2 => exact h
  | stuck => exact h
theorem good_impB {QL QL' : Bool → Hp → Prop} {r : Out Bool} (h : GoodB K T cls W q r e σ F H QL) (i : ∀ v H', QL v H' → QL' v H') : GoodB K T cls W q r e σ F H QL' := by
  cases r with
  | ok x e2 => exact fun F2 H2 s2 q2 => i _ _ (h F2 H2 s2 q2)
  | exc c d e2 => exact h
  | stuck => exact h
theorem good_impA {es : IE} {QL QL' : List V → Hp → Prop} {r : Out (List Slot)} (h : GoodA K T cls W q es r e σ F H QL) (i : ∀ v H', QL v H' → QL' v H') : GoodA K T cls W q es r e σ F H QL' := by
  cases r with
  | ok x e2 => exact fun F2 H2 v s2 r2 q2 => i _ _ (h F2 H2 v s2 r2 q2)
  | exc c d e2 => exact h
  | stuck => exact h
theorem goodE_q {r : Out (D × Fl)} (h : GoodE K T cls W q r e σ F H Q) (hq : q1 = true → q = true) : GoodE K T cls W q1 r e σ F H Q → True := fun _ => trivial

/-! ### the frame in which a text runs -/
/-- the context of a lambda's body, entered at s from the frames outer: exceptions leave it as they are -/
def lamN (X : Cx) (A : Around) (outer : List Env) (s : Shared) (H : Hp) (E : XK) (cs : Scope) (f c' : Addr) : Cx :=
  { LamX.lamCx X A outer s H E cs f c' with
    xe := fun e s' => wpAny (model X.prog X.w) (A.deeper (LamX.lamEnv X cs s.heap.objs.size f c')) (leaving (LamX.lamEnv X cs s.heap.objs.size f c') e)
      (fun _ s'' => L2N.CX X.prog X.w outer H s E e s'') (fun e' s'' => L2N.CX X.prog X.w outer H s E e' s'') s' }
/-- a lambda is made, its def called -/
def tLamX (T : List (Addr × Str)) (TT : (XK → Hp → VK → Prop) → Hp → VK → Prop) (t : XK → TE) : TE := fun σ H Q => TabX T H ∧ ∀ H1, LamX.ExtN H H1 → TabX T H1 → (∀ a, H a ≠ none → H1 a ≠ none) → TT (fun E H' Q' => t E σ H' Q') H1 Q
/-- a pair of a text and v is made -/
def mkPair (x : Str) (v : V) (H : Hp) (Q : VK) : Prop := [V.str x, v].length ≤ sizeLine ∧ ∀ p, H p = none → Q (.ref p) (upd H p (.tup [.str x, v]))
theorem pair_small (x : Str) (v : V) : [V.str x, v].length ≤ sizeLine := Nat.le_of_lt (small1000 (Nat.le_of_ble_eq_true rfl))
/-- what _law_told_by makes of what it is handed -/
def TTold (w : Nm) (cls : Nat → Addr) : (XK → Hp → VK → Prop) → Hp → VK → Prop := fun tl H Q =>
  tl (fun c d H' => ∃ (k : Nat) (dx : Addr) (u : V) (z : Str), c = .ref (cls k) ∧ w.tn.lookup k = some z ∧ d = some dx ∧ H' dx = some (.xd [(("what" : Str), u)]) ∧ ∀ H'', Same H' H'' → mkPair z u H'' Q) H (fun v H' => mkPair "told" v H' Q)
structure Ctx (w : Nm) (T : List (Addr × Str)) (cls : Nat → Addr) (W : WX) (Φ : Fun) (C : List D) (n : Nat) (X : Cx) : Prop where
  nd : X.N.Nodup
  room : Room (n + 5) X.A
  calm : X.calm = true
  tk : L2N.Takes X W
  fns : ∀ (f : Nat) (x : Str), w.fn[f]? = some x → ∃ fa fd ps, X.mg x = some (.ref fa) ∧ PySem.W.keepIn X.K (.ref fa) = true ∧ Binds X.K fd ps [] ∧ FnOk X.prog X.w X.K X.mg X.base (L2N.CX X.prog X.w) (n + 5) fa fd ps (spF X.K T cls Φ f ps.length) ∧ ∀ ss, Φ f ss ≠ .stuck → ss.length = ps.length
  cons : ∀ (i : Nat) (x : Str) (d : D), w.cn[i]? = some x → C[i]? = some d → ∃ u v, X.mg x = some u ∧ RelV v u ∧ ∀ F, Dp X.K F v d
  clen : w.cn.length = C.length
  free : ∀ x ∈ bltN, X.mg x = none
  gcd : X.mg "gcd" = some (.builtin "math.gcd")
  kl : ∀ (a : Addr) (o : Obj), X.K.lookup a = some o → o.cls = .type "list" → o.slots = #[]
  tld : w.lam = true → ∀ (x : Expr) (cs : Scope) (lp p pos : Pos) (t : XK → TE), LamX.lamSB X.env.scope cs = true → glB X.env.scope "_law_told_by" = true →
    (∀ (A : Around) (outer : List Env) (s : Shared) (H : Hp) (E : XK) (f c' : Addr), Room (n + 5) (A.deeper (LamX.lamEnv X cs s.heap.objs.size f c')) → PE (lamN X A outer s H E cs f c') x (t E)) →
    PE X (.Call (.Name "_law_told_by" p) [.Lambda noArgs x cs lp] [] pos) (tLamX T (TTold w cls) t)
/-- .. where no lambda may be made -/
theorem Ctx.off {w : Nm} {T : List (Addr × Str)} {cls : Nat → Addr} {W : WX} {Φ : Fun} {C : List D} {n : Nat} {X : Cx} (c : Ctx w T cls W Φ C n X) : Ctx w.off T cls W Φ C n X :=
  ⟨c.nd, c.room, c.calm, c.tk, c.fns, c.cons, c.clen, c.free, c.gcd, c.kl, fun z => absurd z Bool.false_ne_true⟩
/-- soundness of one expression -/
structure Snd (w : Nm) (ie : IE) : Prop where
  e : ∀ {T : List (Addr × Str)} {cls : Nat → Addr} {W : WX} {Φ : Fun} {C : List D} {n : Nat} {X : Cx} (c : Ctx w T cls W Φ C n X) (x : Expr), chkE w X.N X.env.scope ie x = true → PE X x (tE X.K T cls W Φ C .v ie)
  t : ∀ {T : List (Addr × Str)} {cls : Nat → Addr} {W : WX} {Φ : Fun} {C : List D} {n : Nat} {X : Cx} (c : Ctx w T cls W Φ C n X) (x : Expr), chkE w X.N X.env.scope ie x = true → chkB ie = true → PT X x (tT X.K T cls W Φ C ie)
structure SndS (w : Nm) (ie : IE) : Prop where
  k : ∀ {T : List (Addr × Str)} {cls : Nat → Addr} {W : WX} {Φ : Fun} {C : List D} {n : Nat} {X : Cx} (c : Ctx w T cls W Φ C n X) (xs : List Expr), chkS w X.N X.env.scope ie xs = true → xs.all plainX = true → PA X xs (tK X.K T cls W Φ C ie)
  b : ∀ {T : List (Addr × Str)} {cls : Nat → Addr} {W : WX} {Φ : Fun} {C : List D} {n : Nat} {X : Cx} (c : Ctx w T cls W Φ C n X) (xs : List Expr), chkS w X.N X.env.scope ie xs = true → xs.all plainX = true → PA X xs (tB X.K T cls W Φ C ie)
  a : ∀ {T : List (Addr × Str)} {cls : Nat → Addr} {W : WX} {Φ : Fun} {C : List D} {n : Nat} {X : Cx} (c : Ctx w T cls W Φ C n X) (xs : List Expr), chkS w X.N X.env.scope ie xs = true → xs.all plainX = true → PA X xs (tA X.K T cls W Φ C ie)
end
end TI

set_option Elab.async false
set_option autoImplicit false
set_option maxRecDepth 100000
set_option maxHeartbeats 4000000
set_option linter.all false
/-! TI5: operators on values, as the trees say them. -/
namespace TI
open PySem PySem.Spec PyProof.Rows L2
/-- lists of the top carry no slots -/
def KlOk (K : PySem.W.Frag) : Prop := ∀ (a : Addr) (o : Obj), K.lookup a = some o → o.cls = .type "list" → o.slots = #[]
section
variable {X : Cx} {pins : List (Addr × Obj)} {σ : L2.St} {H : Hp} {s : Shared} {a b : Addr} {xs ys : List V}
theorem lstE (kl : KlOk X.K) (I : Inv X pins σ H s) (h : SqL X.K H a xs) : ∃ (us : List Value) (n : Nat), Vals xs us ∧ us.length = xs.length ∧ xs.length ≤ sizeLine ∧ s.heap.get? a = some { cls := .type "list", data := .seq us.toArray n } := by
  rcases h with h | ⟨o, us, n, hk, hc, hd, hs, hz, r⟩
  · obtain ⟨z, us, n, r, e⟩ := h.ok I.hok
    exact ⟨us, n, r, r.length.symm, z, e⟩
  · have q := kl a o hk hc
    have e := I.kIn a o hk
    obtain ⟨c, d, dt, sl⟩ := o
    simp only at hc hd hs q
    subst hc hd hs q
    exact ⟨us.toList, n, r, r.length.symm, by rw [r.length]; simpa using hz, by simpa using e⟩
def rCatL (K : PySem.W.Frag) : R2 := fun x y H Q => ∃ a b xs ys, x = .ref a ∧ y = .ref b ∧ SqL K H a xs ∧ SqL K H b ys ∧ xs.length + ys.length ≤ sizeLine ∧ ∀ p, H p = none → Q (.ref p) (upd H p (.lst (xs ++ ys)))
theorem op_catL (kl : KlOk X.K) : OpR X (binaryOp .Add) (rCatL X.K) := by
  intro pins s σ H x y v u Q I rx ry h
  obtain ⟨a, b, xs, ys, rfl, rfl, ha, hb, hz, q⟩ := h
  cases rx
  cases ry
  obtain ⟨us, n, r1, l1, z1, e1⟩ := lstE kl I ha
  obtain ⟨ws, m, r2, l2, z2, e2⟩ := lstE kl I hb
  refine PySem.P.add_list e1 e2 ?_ (by simp only [List.size_toArray]; omega)
  have j : us.toArray ++ ws.toArray = (us ++ ws).toArray := by simp
  rw [j]
  exact ⟨.ref _, _, I.lnew (t' := s.toks) (r1.append r2) (by rw [List.length_append]; exact hz), rfl, q _ I.fresh⟩
def rRepL (K : PySem.W.Frag) : R2 := fun x y H Q => ∃ a k xs, x = .ref a ∧ y = .int k ∧ SqL K H a xs ∧ -(2 ^ 63) ≤ k ∧ k < 2 ^ 63 ∧ xs.length * k.toNat ≤ sizeLine ∧ ∀ p, H p = none → Q (.ref p) (upd H p (.lst (List.replicate k.toNat xs).flatten))
theorem fold_rep (us : List Value) (m : Nat) : List.foldl (fun p q => p ++ q) #[] (List.replicate (if us.toArray.isEmpty = true then 0 else m) us.toArray) = (List.replicate m us).flatten.toArray := by
  cases us with
  | nil => simp
  | cons c r =>
    rw [if_neg (by simp)]
    exact size_rep (c :: r) m
theorem op_repL (kl : KlOk X.K) : OpR X (binaryOp .Mult) (rRepL X.K) := by
  intro pins s σ H x y v u Q I rx ry h
  obtain ⟨a, k, xs, rfl, rfl, ha, k1, k2, hz, q⟩ := h
  cases rx
  obtain ⟨t, rfl⟩ := ry
  obtain ⟨us, n, r, l1, z1, e1⟩ := lstE kl I ha
  have sz : us.toArray.size * k.toNat ≤ sizeLine := by rw [List.size_toArray, l1]; exact hz
  have b1 : ¬ (!Builtin.List.listFitsIndex k) = true := by rw [fitsIndex_both k1 k2]; decide
  have b2 : ¬ us.toArray.size * k.toNat > (2 ^ 63 - 1) / 8 := by
    rw [sizeLine_eq] at sz
    omega
  have b3 : ¬ Builtin.List.listTooLong (us.toArray.size * k.toNat) = true := by rw [notLongL sz]; decide
  refine wpAny_binaryOp_repeat_ref (T := "list") (U := "int") (by decide) ⟨_, e1, rfl⟩ (fun z => typeIs_int z k t) noFill_list_mul F.fills_int_mul F.slot_int_rmul repeat_list F.slot_int_index.lookup ?_
  refine call_meets F.slot_int_rmul (typeIs_int s k t) F.entry_int_rmul (F.args_int_rmul_2 _ _) (int___rmul___int_list k t a us.toArray n) ⟨e1, rfl, ⟨_, e1, rfl⟩, ?_⟩
  refine call_meets F.slot_list_mul ⟨_, e1, rfl⟩ F.entry_list_mul (F.args_list_mul_2 _ _) (AutoListH.list___mul___list_int_3 a us.toArray n k t b1 b2 b3) ⟨e1, ?_⟩
  rw [fold_rep]
  refine ⟨.ref _, _, I.lnew (t' := s.toks) (r.rep k.toNat) ?_, rfl, q _ I.fresh⟩
  rw [PyProof.Rows.lm_len_rep_flat, Nat.mul_comm]
  exact hz
/-- tuple * int -/
theorem tuple_mulS (l : Addr) (items : Array Value) (n : Nat) (dd : Option Addr) (sl : Array (Option Value)) (x : Int) (u : Tok) (c0 : (decide (x < -(2 ^ 63)) || decide (x ≥ 2 ^ 63)) = false) (c1 : (items.isEmpty || x == 1) = true) :
    Meets (Builtin.«tuple.__mul__» ⟨[.ref l, .int x u], []⟩) (fun _ R s => s.heap.get? l = some { cls := .type "tuple", dict := dd, data := .seq items n, slots := sl } ∧ R (.ok (.ret (Value.ref l))) s) :=
  .of_wp fun prog w A R s h => by
    obtain ⟨hp, g, d, tk, os⟩ := s
    obtain ⟨hl, h⟩ := h
    have f1 := AutoSeq1.idx_int
    wp_walk using wpAny_loadPart' hl
    refine wpAny_ite_false (decide_eq_false (by rw [c0]; exact Bool.false_ne_true)) ?_
    wp_walk using wpAny_loadPart' hl
    exact ⟨_, rfl, h⟩
theorem tuple_mul0 (l : Addr) (items : Array Value) (n : Nat) (dd : Option Addr) (sl : Array (Option Value)) (x : Int) (u : Tok) (c0 : (decide (x < -(2 ^ 63)) || decide (x ≥ 2 ^ 63)) = false) (c1 : (items.isEmpty || x == 1) = false) (c2 : (decide (x ≤ 0) || items.isEmpty) = true) :
    Meets (Builtin.«tuple.__mul__» ⟨[.ref l, .int x u], []⟩) (fun _ R s => s.heap.get? l = some { cls := .type "tuple", dict := dd, data := .seq items n, slots := sl } ∧
      R (.ok (.ret (Value.ref s.heap.objs.size))) { s with heap := s.heap.push { cls := Value.type "tuple", data := Data.seq #[] }, toks := s.toks }) :=
  .of_wp fun prog w A R s h => by
    obtain ⟨hp, g, d, tk, os⟩ := s
    obtain ⟨hl, h⟩ := h
    have f1 := AutoSeq1.idx_int
    wp_walk using wpAny_loadPart' hl
    refine wpAny_ite_false (decide_eq_false (by rw [c0]; exact Bool.false_ne_true)) ?_
    wp_walk using wpAny_loadPart' hl
    exact ⟨_, rfl, h⟩
def rRepU (K : PySem.W.Frag) : R2 := fun x y H Q => ∃ a k xs, x = .ref a ∧ y = .int k ∧ SqT K H a xs ∧ k < 2 ^ 62 ∧ -(2 ^ 62) ≤ k ∧ xs.length * k.toNat ≤ sizeLine ∧
  ((List.replicate k.toNat xs).flatten = xs → Q (.ref a) H) ∧ ∀ p, H p = none → Q (.ref p) (upd H p (.tup (List.replicate k.toNat xs).flatten))
theorem op_repU : OpR X (binaryOp .Mult) (rRepU X.K) := by
  intro pins s σ H x y v u Q I rx ry h
  obtain ⟨a, k, xs, rfl, rfl, ha, k1, k2, hz, q1, q2⟩ := h
  cases rx
  obtain ⟨t, rfl⟩ := ry
  obtain ⟨us, r, ⟨⟨c, dd, dt, sl⟩, ho, hc, n, hd⟩, hs⟩ := I.tuple ha
  simp only at hc hd
  subst hc hd
  have le := r.length
  have c0 : (decide (k < -(2 ^ 63)) || decide (k ≥ 2 ^ 63)) = false := by
    rw [decide_eq_false (by omega), decide_eq_false (by omega)] <;> rfl
  refine wpAny_binaryOp_repeat_ref (T := "tuple") (U := "int") (by decide) ⟨_, ho, rfl⟩ (fun z => typeIs_int z k t) noFill_tuple_mul F.fills_int_mul F.slot_int_rmul repeat_tuple F.slot_int_index.lookup ?_
  refine call_meets F.slot_int_rmul (typeIs_int s k t) F.entry_int_rmul (F.args_int_rmul_2 _ _) (int_rmul_tuple k t a us.toArray n dd sl) ⟨ho, rfl, ⟨_, ho, rfl⟩, ?_⟩
  by_cases z1 : (us.toArray.isEmpty || k == 1) = true
  · refine call_meets F.slot_tuple_mul ⟨_, ho, rfl⟩ F.entry_tuple_mul (F.args_tuple_mul_2 _ _) (tuple_mulS a us.toArray n dd sl k t c0 z1) ⟨ho, ?_⟩
    refine ⟨.ref a, _, I.tok _, rfl, q1 ?_⟩
    rcases Bool.or_eq_true_iff.mp z1 with z | z
    · have : us = [] := by simpa using z
      subst this
      cases r
      simp
    · have : k = 1 := by simpa using z
      subst this
      simp
  · have z1 : (us.toArray.isEmpty || k == 1) = false := by simpa using z1
    have ne : us.toArray.isEmpty = false := (Bool.or_eq_false_iff.mp z1).1
    by_cases z2 : k ≤ 0
    · refine call_meets F.slot_tuple_mul ⟨_, ho, rfl⟩ F.entry_tuple_mul (F.args_tuple_mul_2 _ _) (tuple_mul0 a us.toArray n dd sl k t c0 z1 (by rw [decide_eq_true z2]; rfl)) ⟨ho, ?_⟩
      have e0 : (List.replicate k.toNat xs).flatten = [] := by rw [show k.toNat = 0 by omega]; rfl
      have q3 := q2 s.heap.objs.size (I.hok.fresh (Nat.le_refl _))
      rw [e0] at q3
      exact ⟨.ref _, _, I.laid (t' := s.toks) (o := .tup []) (fun b o e => Heap.get?_push_of_some _ e) (Nat.le_refl _) ⟨Nat.zero_le _, [], .nil, ⟨_, Heap.get?_push_size s.heap rfl, rfl, 0, rfl⟩⟩, rfl, q3⟩
    · have fl : (List.replicate k.toNat us).flatten.length ≤ sizeLine := by rw [PyProof.Rows.lm_len_rep_flat, Nat.mul_comm, ← le]; exact hz
      have ik : ((us.toArray.size : Nat) : Int) * k = ((xs.length * k.toNat : Nat) : Int) := by
        rw [List.size_toArray, ← le, Int.natCast_mul, Int.toNat_of_nonneg (by omega)]
      refine call_meets F.slot_tuple_mul ⟨_, ho, rfl⟩ F.entry_tuple_mul (F.args_tuple_mul_2 _ _)
        (tuple_mulW a us.toArray n dd sl k t c0 z1 (by rw [ne, Bool.or_false]; exact decide_eq_false z2) (by rw [ik]; rw [sizeLine_eq] at hz; omega)
          (by unfold Builtin.Tuple.tupleTooMany; rw [ik]; exact decide_eq_false (by omega)) (by rw [size_rep, List.size_toArray]; exact fl)) ⟨ho, ?_⟩
      rw [size_rep]
      refine ⟨.ref _, _, I.laid (t' := s.toks) (o := .tup (List.replicate k.toNat xs).flatten) (fun b o e => Heap.get?_push_of_some _ e) (Nat.le_refl _) ⟨?_, _, r.rep k.toNat, ⟨_, Heap.get?_push_size s.heap rfl, rfl, 0, rfl⟩⟩, rfl, q2 _ (I.hok.fresh (Nat.le_refl _))⟩
      rw [PyProof.Rows.lm_len_rep_flat, Nat.mul_comm]
      exact hz
set_option maxRecDepth 8000 in
theorem list_extendU (l : Addr) (items : Array Value) (n : Nat) (b : Addr) (items2 : Array Value) (n2 : Nat) (dd : Option Addr) (sl : Array (Option Value)) (c1 : ¬(!items.isEmpty && Builtin.List.listTooLong (items.size + items2.size)) = true) (c2 : items.size ≤ sizeLine) (c3 : items.size + items2.size ≤ sizeLine) :
    Meets (Builtin.«list.extend» ⟨[.ref l, .ref b], []⟩) (fun _ R s => s.heap.get? l = some { cls := .type "list", dict := none, data := .seq items n, slots := #[] } ∧ s.heap.get? b = some { cls := .type "tuple", dict := dd, data := .seq items2 n2, slots := sl } ∧
      R (.ok (.ret Value.none)) { s with heap := s.heap.update l (Obj.mapSeq fun x => x ++ items2), toks := s.toks }) :=
  .of_wp fun prog w A R s h => by
    obtain ⟨hp, g, d, tk, os⟩ := s
    obtain ⟨hl, hb, h⟩ := h
    have g1 := AutoSeq1.idx_int
    have g2 := AutoSeq1.sub_tuple_tuple
    have g3 := AutoSeq1.sub_list_list
    have g4 := AutoSeq1.sub_tuple_list
    have g5 := AutoSeq1.sub_list_tuple
    have z2 : (items ++ items2).size ≤ sizeLine + 1 := by rw [Array.size_append]; omega
    wp_walk using (wpAny_updateSeq hl rfl (hz := c2) (_hz' := z2)), wpAny_loadPart' hl, wpAny_loadPart' hb
    exact ⟨_, rfl, h⟩
/-- list.extend of a list or a tuple -/
def rExtA (K : PySem.W.Frag) : V → List V → Hp → VK → Prop := fun x vs H Q => ∃ l b xs ys, x = .ref l ∧ vs = [.ref b] ∧ H l = some (.lst xs) ∧ (SqL K H b ys ∨ SqT K H b ys) ∧ xs.length + ys.length ≤ sizeLine ∧ Q .non (upd H l (.lst (xs ++ ys)))
theorem mt_extA (kl : KlOk X.K) : MtM X "list.extend" (rExtA X.K) := by
  intro pins s σ H x vs v us Q I rx rv h
  obtain ⟨l, b, xs, ys, rfl, rfl, hl, hb, hz, q⟩ := h
  cases rx
  obtain ⟨u, rfl, ru⟩ := rv.one
  cases ru
  obtain ⟨z, ws, n, r, e1, e⟩ := I.lstM hl
  have fin : ∀ {zs : List Value} {t : Nat}, Vals ys zs → EP X pins σ Q .none { s with heap := s.heap.update l (Obj.mapSeq fun p => p ++ zs.toArray), toks := t } := fun {zs t} r2 =>
    ⟨.non, _, I.lset (its' := ws ++ zs) (t' := t) hl e (by simp) (r.append r2) (by rw [List.length_append]; exact hz), rfl, q⟩
  have lg : ∀ {zs : List Value}, zs.length = ys.length → ¬(!ws.toArray.isEmpty && Builtin.List.listTooLong (ws.toArray.size + zs.toArray.size)) = true := fun {zs} q => by
    rw [notLongL (by simp only [List.size_toArray]; omega), Bool.and_false]
    decide
  rcases hb with hb | hb
  · obtain ⟨zs, m, r2, l2, z2, e2⟩ := lstE kl I hb
    exact call_meets F.slot_list_extend ⟨_, e, rfl⟩ F.entry_list_extend (F.args_list_extend_2 _ _)
      (AutoSeq1.list_extend_list_list_0 l ws.toArray n b zs.toArray m (lg l2) (by simp only [List.size_toArray]; omega) (by simp only [List.size_toArray]; omega)) ⟨e, e2, fin r2⟩
  · obtain ⟨zs, r2, ⟨⟨c, dd, dt, sl⟩, ho, hc, m, hd⟩, hs⟩ := I.tuple hb
    simp only at hc hd
    subst hc hd
    have l2 := r2.length
    exact call_meets F.slot_list_extend ⟨_, e, rfl⟩ F.entry_list_extend (F.args_list_extend_2 _ _)
      (list_extendU l ws.toArray n b zs.toArray m dd sl (lg l2.symm) (by simp only [List.size_toArray]; omega) (by simp only [List.size_toArray]; omega)) ⟨e, ho, fin r2⟩
/-! ### what is made -/
/-- behind an operation: the tree d stands at v; a list is new -/
def Made (K : PySem.W.Frag) (F H : Hp) (d : D) (v : V) (H' : Hp) : Prop :=
  (newF d = .val ∧ H' = H ∧ Dp K F v d) ∨ (∃ p vs xs, H p = none ∧ v = .ref p ∧ H' = upd H p (.lst vs) ∧ d = .list xs ∧ DpAll K F vs xs) ∨ (∃ p vs xs, H p = none ∧ v = .ref p ∧ H' = upd H p (.tup vs) ∧ d = .tuple xs ∧ DpAll K F vs xs)
/-- two read operands, one result -/
def rMade (K : PySem.W.Frag) (g : D → D → Option D) : R2 := fun x y H Q => ∃ F dx dy d, Same F H ∧ Top K F H x dx ∧ Top K F H y dy ∧ g dx dy = some d ∧ ∀ v H', Made K F H d v H' → Q v H'
theorem lim_eq : lim = sizeLine := by rw [sizeLine_eq]; rfl
theorem small_ok {i : Int} (h : small i = true) : -(2 ^ 64) < i ∧ i < 2 ^ 64 := by
  unfold small at h
  simp only [decide_eq_true_eq] at h
  omega
theorem inR_ok {i : Int} (h : inR i = true) : -(2 ^ 62) ≤ i ∧ i < 2 ^ 62 := by
  unfold inR at h
  simp only [decide_eq_true_eq] at h
  omega
theorem small_abs {i : Int} (h : small i = true) : i.natAbs < 2 ^ 64 := by
  have := small_ok h
  omega
theorem op_bin (kl : KlOk X.K) (o : BinO) : OpR X (binaryOp (binA o)) (rMade X.K (binOp o)) := by
  intro pins s σ H x y v u Q I rx ry h
  obtain ⟨F, dx, dy, d, sb, tx, ty, g, k⟩ := h
  have vi : ∀ {i : Int}, d = .int i → Q (.int i) H := fun {i} z => by
    subst z
    exact k _ _ (.inl ⟨rfl, rfl, .int i⟩)
  unfold binOp at g
  split at g
  · cases tx.int; cases ty.int; cases g
    exact op_add pins s σ H _ _ v u Q I rx ry ⟨_, _, rfl, rfl, vi rfl⟩
  · cases tx.str; cases ty.str
    split at g
    · rename_i hz
      cases g
      exact op_add_str pins s σ H _ _ v u Q I rx ry ⟨_, _, rfl, rfl, by rw [← lim_eq]; exact hz, k _ _ (.inl ⟨rfl, rfl, .str _⟩)⟩
    · cases g
  · obtain ⟨a, vs, rfl, q1, p1⟩ := tx.tup sb
    obtain ⟨b, ws, rfl, q2, p2⟩ := ty.tup sb
    split at g
    · rename_i hz
      cases g
      have e1 := p1.length
      have e2 := p2.length
      refine op_catA pins s σ H _ _ v u Q I rx ry ⟨a, b, vs, ws, rfl, rfl, q1, q2, by rw [← lim_eq, e1, e2]; exact hz, fun z => ?_, fun _ z => ?_, fun _ _ p hp => ?_⟩
      · subst z
        cases p1
        refine k _ _ (.inl ⟨rfl, rfl, ?_⟩)
        rcases ty with ty | ⟨_, _, _, e, _⟩
        · exact ty
        · cases e
      · subst z
        cases p2
        refine k _ _ (.inl ⟨rfl, rfl, ?_⟩)
        rw [List.append_nil]
        rcases tx with tx | ⟨_, _, _, e, _⟩
        · exact tx
        · cases e
      · exact k _ _ (.inr (.inr ⟨p, _, _, hp, rfl, rfl, rfl, p1.append p2⟩))
    · cases g
  · obtain ⟨a, vs, rfl, q1, p1⟩ := tx.lst sb
    obtain ⟨b, ws, rfl, q2, p2⟩ := ty.lst sb
    split at g
    · rename_i hz
      cases g
      have e1 := p1.length
      have e2 := p2.length
      exact op_catL kl pins s σ H _ _ v u Q I rx ry ⟨a, b, vs, ws, rfl, rfl, q1, q2, by rw [← lim_eq, e1, e2]; exact hz, fun p hp => k _ _ (.inr (.inl ⟨p, _, _, hp, rfl, rfl, rfl, p1.append p2⟩))⟩
    · cases g
  · cases tx.int; cases ty.int; cases g
    exact op_sub pins s σ H _ _ v u Q I rx ry ⟨_, _, rfl, rfl, vi rfl⟩
  · cases tx.int; cases ty.int
    split at g
    · rename_i hz
      cases g
      refine op_mul pins s σ H _ _ v u Q I rx ry ⟨_, _, rfl, rfl, ?_, vi rfl⟩
      rcases Bool.or_eq_true_iff.mp hz with z | z
      · exact .inl (small_ok z)
      · exact .inr (small_ok z)
    · cases g
  · obtain ⟨a, vs, rfl, q1, p1⟩ := tx.lst sb
    cases ty.int
    split at g
    · rename_i hz
      cases g
      obtain ⟨z1, z2⟩ := hz
      have z1 := inR_ok z1
      exact op_repL kl pins s σ H _ _ v u Q I rx ry ⟨a, _, vs, rfl, rfl, q1, by omega, by omega, by rw [← lim_eq, p1.length]; exact z2, fun p hp => k _ _ (.inr (.inl ⟨p, _, _, hp, rfl, rfl, rfl, p1.rep _⟩))⟩
    · cases g
  · obtain ⟨a, vs, rfl, q1, p1⟩ := tx.tup sb
    cases ty.int
    split at g
    · rename_i xs b hz
      cases g
      obtain ⟨z1, z2⟩ := hz
      have z1 := inR_ok z1
      refine op_repU pins s σ H _ _ v u Q I rx ry ⟨a, _, vs, rfl, rfl, q1, z1.2, z1.1, by rw [← lim_eq, p1.length]; exact z2, fun z => ?_, fun p hp => k _ _ (.inr (.inr ⟨p, _, _, hp, rfl, rfl, rfl, p1.rep _⟩))⟩
      refine k _ _ (.inl ⟨rfl, rfl, ?_⟩)
      rcases tx with tx | ⟨_, _, _, e, _⟩
      · cases tx with
        | tup h1 h2 =>
          have e1 := I.tuple_inj (seqT sb h1) q1
          subst e1
          have p3 := p1.rep b.toNat
          rw [z] at p3
          exact .tup h1 p3
      · cases e
    · cases g
  · cases tx.int; cases ty.int
    split at g
    · rename_i hz
      cases g
      exact op_fdiv pins s σ H _ _ v u Q I rx ry ⟨_, _, rfl, rfl, ⟨hz.1, by omega⟩, vi rfl⟩
    · cases g
  · cases tx.int; cases ty.int
    split at g
    · rename_i hz
      cases g
      exact op_mod pins s σ H _ _ v u Q I rx ry ⟨_, _, rfl, rfl, hz, vi rfl⟩
    · cases g
  · cases tx.int; cases ty.int
    split at g
    · rename_i hz
      cases g
      exact op_pow pins s σ H _ _ v u Q I rx ry ⟨_, _, rfl, rfl, ⟨hz.1, by have := hz.2.1; omega, small_abs hz.2.2⟩, vi rfl⟩
    · cases g
  · cases tx.int; cases ty.int
    split at g
    · rename_i hz
      cases g
      exact op_shl pins s σ H _ _ v u Q I rx ry ⟨_, _, rfl, rfl, ⟨hz.1, by have := hz.2.1; omega, small_abs hz.2.2⟩, vi rfl⟩
    · cases g
  · cases g

theorem lex_eq : ∀ a b : List Int, HT.lexLt a b = TI.lexLt a b
  | [], [] => rfl
  | [], _ :: _ => rfl
  | _ :: _, [] => rfl
  | x :: xs, y :: ys => by
    unfold HT.lexLt TI.lexLt
    rw [lex_eq xs ys]
/-! ### comparisons -/
def isNoneO : CmpO → Bool
  | .is => true
  | .isnot => true
  | _ => false
def rCmp (K : PySem.W.Frag) (o : CmpO) : R2 := fun x y H Q => ∃ F dx dy b, Same F H ∧ Top K F H x dx ∧ Top K F H y dy ∧ cmpOp o dx dy = some b ∧ Q (.bl b) H
theorem flat_dp {F : Hp} {x : V} {d : D} (h : Dp X.K F x d) (f : flat d = true) : flatV x = true := by
  cases h <;> first | rfl | (cases f)
theorem flats_dp {F : Hp} : ∀ {vs : List V} {ds : List D}, DpAll X.K F vs ds → ds.all flat = true → vs.all flatV = true
  | _, _, .nil, _ => rfl
  | _, _, .cons a t, f => by
    rw [List.all_cons, Bool.and_eq_true] at f
    rw [List.all_cons, flat_dp a f.1, flats_dp t f.2]
    rfl
theorem eqV_dp {F : Hp} {x y : V} {d e : D} (h : Dp X.K F x d) (g : Dp X.K F y e) (f : flat d = true) (f' : flat e = true) : eqV x y = PyData.eqv d e := by
  cases h <;> first | (cases f; done) | (cases g <;> first | (cases f'; done) | (simp [eqV, PyData.eqv]))
theorem inV_dp {F : Hp} {x : V} {d : D} (h : Dp X.K F x d) (f : flat d = true) : ∀ {vs : List V} {ds : List D}, DpAll X.K F vs ds → ds.all flat = true → inV x vs = mem d ds
  | _, _, .nil, _ => rfl
  | _, _, .cons a t, g => by
    rw [List.all_cons, Bool.and_eq_true] at g
    have q := inV_dp h f t g.2
    unfold inV mem at q ⊢
    rw [List.any_cons, List.any_cons, eqV_dp a h g.1 f, q]
theorem top_flat {F : Hp} {x : V} {d : D} (h : Top X.K F H x d) (f : flat d = true) : Dp X.K F x d := by
  rcases h with h | ⟨_, _, _, e, _⟩
  · exact h
  · subst e
    cases f
theorem isNone_top {F : Hp} {x : V} {d : D} (h : Top X.K F H x d) : decide (x = .non) = isNone d := by
  rcases h with h | ⟨_, _, _, e, e', _⟩
  · cases h <;> simp [isNone]
  · subst e e'
    simp [isNone]
theorem op_cmp (hr : Room 5 X.A) (o : CmpO) : OpR X (compareOp (cmpA o)) (rCmp X.K o) := by
  intro pins s σ H x y v u Q I rx ry h
  obtain ⟨F, dx, dy, b, sb, tx, ty, g, k⟩ := h
  have hu : X.A.units + 64 < cLine := hr.units
  have hu5 : X.A.units + 65 < cLine := by have := hr.un; omega
  unfold cmpOp at g
  split at g
  · cases tx.str; cases ty.str; cases g
    refine op_eq pins s σ H _ _ v u Q I rx ry ⟨rfl, ?_⟩
    rw [dec_str]
    exact k
  · cases tx.str; cases ty.str; cases g
    refine op_ne pins s σ H _ _ v u Q I rx ry ⟨rfl, ?_⟩
    rw [dec_str]
    exact k
  · split at g
    · rename_i hz
      cases g
      obtain ⟨z1, z2⟩ := Bool.and_eq_true_iff.mp hz
      exact op_eqD hu pins s σ H _ _ v u Q I rx ry ⟨_, _, tx.dp sb, ty.dp sb, z1, z2, k⟩
    · cases g
  · split at g
    · rename_i hz
      cases g
      obtain ⟨z1, z2⟩ := Bool.and_eq_true_iff.mp hz
      exact op_neD hu pins s σ H _ _ v u Q I rx ry ⟨_, _, tx.dp sb, ty.dp sb, z1, z2, k⟩
    · cases g
  · cases tx.int; cases ty.int; cases g
    exact op_lt pins s σ H _ _ v u Q I rx ry ⟨_, _, rfl, rfl, k⟩
  · obtain ⟨a, vs, rfl, q1, p1⟩ := tx.tup sb
    obtain ⟨c, ws, rfl, q2, p2⟩ := ty.tup sb
    obtain ⟨ns, e1, g⟩ := Option.bind_eq_some_iff.mp g
    obtain ⟨ms, e2, g⟩ := Option.map_eq_some_iff.mp g
    subst g
    rw [p1.nums e1] at q1
    rw [p2.nums e2] at q2
    refine op_ltT hr.units0 pins s σ H _ _ v u Q I rx ry ⟨a, c, ns, ms, rfl, rfl, q1, q2, ?_⟩
    rw [show HT.lexLt ns ms = TI.lexLt ns ms from lex_eq ns ms]
    exact k
  · cases tx.int; cases ty.int; cases g
    exact op_le pins s σ H _ _ v u Q I rx ry ⟨_, _, rfl, rfl, k⟩
  · cases tx.int; cases ty.int; cases g
    exact op_gt pins s σ H _ _ v u Q I rx ry ⟨_, _, rfl, rfl, k⟩
  · cases tx.int; cases ty.int; cases g
    exact op_ge pins s σ H _ _ v u Q I rx ry ⟨_, _, rfl, rfl, k⟩
  · cases ty.none; cases g
    refine op_isN pins s σ H _ _ v u Q I rx ry ⟨rfl, ?_⟩
    rw [isNone_top tx]
    exact k
  · cases ty.none; cases g
    refine op_notN pins s σ H _ _ v u Q I rx ry ⟨rfl, ?_⟩
    rw [isNone_top tx]
    exact k
  · rename_i x' xs
    obtain ⟨a, vs, rfl, q1, p1⟩ := ty.lst sb
    split at g
    · rename_i hz
      cases g
      rcases hz with hz | hz
      · obtain ⟨z1, z2⟩ := Bool.and_eq_true_iff.mp hz
        have d1 := top_flat tx z1
        refine op_in_seq pins s σ H _ _ v u Q I rx ry ⟨a, vs, rfl, .inl q1, flat_dp d1 z1, flats_dp p1 z2, ?_⟩
        rw [inV_dp d1 z1 p1 z2]
        exact k
      · obtain ⟨z1, z2⟩ := Bool.and_eq_true_iff.mp hz
        exact op_inD hu5 pins s σ H _ _ v u Q I rx ry ⟨_, _, tx.dp sb, ty.dp sb, z1, z2, k⟩
    · cases g
  · rename_i x' xs
    obtain ⟨a, vs, rfl, q1, p1⟩ := ty.tup sb
    split at g
    · rename_i hz
      cases g
      obtain ⟨z1, z2⟩ := Bool.and_eq_true_iff.mp hz
      have d1 := top_flat tx z1
      refine op_in_seq pins s σ H _ _ v u Q I rx ry ⟨a, vs, rfl, .inr q1, flat_dp d1 z1, flats_dp p1 z2, ?_⟩
      rw [inV_dp d1 z1 p1 z2]
      exact k
    · cases g
  · rename_i x' xs
    obtain ⟨a, vs, rfl, q1, p1⟩ := ty.lst sb
    split at g
    · rename_i hz
      cases g
      rcases hz with hz | hz
      · obtain ⟨z1, z2⟩ := Bool.and_eq_true_iff.mp hz
        have d1 := top_flat tx z1
        refine op_notIn_seq pins s σ H _ _ v u Q I rx ry ⟨a, vs, rfl, .inl q1, flat_dp d1 z1, flats_dp p1 z2, ?_⟩
        rw [inV_dp d1 z1 p1 z2]
        exact k
      · obtain ⟨z1, z2⟩ := Bool.and_eq_true_iff.mp hz
        exact op_notInD hu5 pins s σ H _ _ v u Q I rx ry ⟨_, _, tx.dp sb, ty.dp sb, z1, z2, k⟩
    · cases g
  · rename_i x' xs
    obtain ⟨a, vs, rfl, q1, p1⟩ := ty.tup sb
    split at g
    · rename_i hz
      cases g
      obtain ⟨z1, z2⟩ := Bool.and_eq_true_iff.mp hz
      have d1 := top_flat tx z1
      refine op_notIn_seq pins s σ H _ _ v u Q I rx ry ⟨a, vs, rfl, .inr q1, flat_dp d1 z1, flats_dp p1 z2, ?_⟩
      rw [inV_dp d1 z1 p1 z2]
      exact k
    · cases g
  · cases g
/-- truth -/
theorem truV_top {F : Hp} {x : V} {d : D} {b : Bool} (h : Top X.K F H x d) (sb : Same F H) (g : truth d = some b) : TruV X.K x H b := by
  cases d with
  | none => cases h.none; cases g; rfl
  | bool c => cases h.bool; cases g; rfl
  | int i => cases h.int; cases g; rfl
  | str z =>
    cases h.str
    have g : (if z.length ≤ lim then some (z.length != 0) else none) = some b := g
    split at g
    · rename_i hz
      cases g
      refine ⟨by rw [← lim_eq]; exact hz, ?_⟩
      rw [Bool.eq_iff_iff]
      simp
    · cases g
  | list xs =>
    obtain ⟨a, vs, rfl, q1, p1⟩ := h.lst sb
    cases g
    refine .inl ⟨vs, q1, ?_⟩
    cases p1 <;> rfl
  | tuple xs =>
    obtain ⟨a, vs, rfl, q1, p1⟩ := h.tup sb
    cases g
    refine .inr (.inl ⟨vs, q1, ?_⟩)
    cases p1 <;> rfl
  | dict kvs => cases g
end
end TI

set_option Elab.async false
set_option autoImplicit false
set_option maxRecDepth 100000
set_option maxHeartbeats 4000000
set_option linter.all false
/-! TI6: each form of expression runs as its tree says. -/
namespace TI
open PySem PySem.Spec PyProof.Rows L2
section
variable {K : PySem.W.Frag} {T : List (Addr × Str)} {e e1 e2 : En} {σ : L2.St} {F F1 F2 H H1 H2 : Hp} {d : D} {v : V}
theorem made_good (s : Step K T e σ F H e1 σ F1 H1) (m : Made K F1 H1 d v H2) : ∃ F2, Step K T e σ F H e1 σ F2 H2 ∧ Res K e σ H e1 σ F2 H2 (d, newF d) v ∧ Same H1 H2 := by
  rcases m with ⟨n, rfl, h⟩ | ⟨p, vs, xs, hp, rfl, rfl, rfl, h⟩ | ⟨p, vs, xs, hp, rfl, rfl, rfl, h⟩
  · refine ⟨F1, s, ?_, Same.refl _⟩
    rw [n]
    exact h
  · refine ⟨F1, s.new hp, ⟨xs, p, vs, rfl, rfl, s.agr.sub.free hp, upd_same, h, fun z => ?_, .inl ?_⟩, same_upd hp⟩
    · obtain ⟨_, us, q⟩ := s.agr.own_at z
      rw [hp] at q
      cases q
    · cases q : H p with
      | none => rfl
      | some o => exact absurd hp (s.there p (by rw [q]; simp))
  · exact ⟨_, s.newKnown hp (by intro ps z; cases z), .tup (.of upd_same) (DpAll.mono (same_upd (s.agr.sub.free hp)) h), same_upd hp⟩
theorem okTwo_q {x : D × Fl} {b : IE} (h : okTwo x b = true) (q : pure b = true → Quiet H1 H2) : x.2.isBr = true → Quiet H1 H2 := fun z => by
  unfold okTwo at h
  rw [z] at h
  exact q (by simpa using h)
end
theorem place_ix {n : Nat} {i : Int} : place n i = ixN n i := rfl
theorem item_dp {K : PySem.W.Frag} {F : Hp} {vs : List V} {xs : List D} {i : Int} {d : D} (h : DpAll K F vs xs) (q : itemAt xs i = some d) : ∃ v, atI vs i = some v ∧ Dp K F v d := by
  obtain ⟨j, h1, h2⟩ := Option.bind_eq_some_iff.mp q
  obtain ⟨v, h3, h4⟩ := h.getD h2
  refine ⟨v, ?_, h4⟩
  unfold atI
  rw [h.length]
  exact Option.bind_eq_some_iff.mpr ⟨j, h1, h3⟩
section
variable {w : Nm} {T : List (Addr × Str)} {cls : Nat → Addr} {W : WX} {Φ : Fun} {C : List D} {n : Nat} {X : Cx}
/-- a test that is its value's truth -/
theorem pt_gen {ie : IE} {x : Expr} (pe : PE X x (tE X.K T cls W Φ C .v ie)) (tx : testX x = true) (ev : ∀ e, evalE Φ C ie .t e = evalE Φ C ie .v e) : PT X x (tT X.K T cls W Φ C ie) := by
  refine ⟨fun pins s σ H Q I h => (pt_truth pe (test_plain tx)).run pins s σ H Q I ?_⟩
  obtain ⟨e, F, g, h⟩ := h
  rw [ev] at h
  refine ⟨e, F, g, ?_⟩
  cases r : evalE Φ C ie .v e with
  | stuck => rw [r] at h; exact h
  | exc c d e1 => rw [r] at h; exact h
  | ok x e1 =>
    rw [r] at h
    intro F1 H1 v s1 r1 q1
    have h : GoodB X.K T cls W (pure ie) (match truth x.1 with | some b => Out.ok b e1 | none => .stuck) e σ F H Q := h
    cases t : truth x.1 with
    | none => rw [t] at h; exact h.elim
    | some b =>
      rw [t] at h
      exact ⟨b, truV_top r1.top s1.agr.sub t, h F1 H1 s1 q1⟩
theorem cmp_bool {o : CmpO} {a b : IE} {e e1 : En} {x : D × Fl} (r : evalE Φ C (.cmp o a b) .v e = .ok x e1) : ∃ z, x = (.bool z, .val) := by
  simp only [evalE, Out.bind] at r
  repeat' split at r
  all_goals first | (cases r; exact ⟨_, rfl⟩) | (cases r; done)
theorem chain_bool {o o' : CmpO} {a b d : IE} {e e1 : En} {x : D × Fl} (r : evalE Φ C (.chain o o' a b d) .v e = .ok x e1) : ∃ z, x = (.bool z, .val) := by
  simp only [evalE, Out.bind] at r
  repeat' split at r
  all_goals first | (cases r; exact ⟨_, rfl⟩) | (cases r; done)
/-- a comparison's answer as a test -/
theorem goodB_val2 {ie : IE} {e : En} {σ : L2.St} {F H : Hp} {Q : Bool → Hp → Prop} (hb : ∀ {e1 : En} {x : D × Fl}, evalE Φ C ie .v e = .ok x e1 → ∃ z, x = (.bool z, .val)) (ev : evalE Φ C ie .t e = evalE Φ C ie .v e)
    (h : GoodB X.K T cls W (pure ie) (asB (evalE Φ C ie .t e)) e σ F H Q) : GoodE X.K T cls W (pure ie) (evalE Φ C ie .v e) e σ F H (fun x H' => ∃ k, x = .bl k ∧ Q k H') := by
  rw [ev] at h
  cases r : evalE Φ C ie .v e with
  | stuck => rw [r] at h; exact h
  | exc c d e1 => rw [r] at h; exact h
  | ok x e1 =>
    obtain ⟨z, rfl⟩ := hb r
    rw [r] at h
    intro F1 H1 v s1 r1 q1
    cases r1
    exact ⟨z, rfl, h F1 H1 s1 q1⟩
/-! ### names, constants -/
theorem snd_var (i : Nat) : Snd w (.var i) := by
  have E : ∀ {T : List (Addr × Str)} {cls : Nat → Addr} {W : WX} {Φ : Fun} {C : List D} {n : Nat} {X : Cx} (c : Ctx w T cls W Φ C n X) (x : Expr), chkE w X.N X.env.scope (.var i) x = true → PE X x (tE X.K T cls W Φ C .v (.var i)) ∧ testX x = true := by
    intro T cls W Φ C n X c x hx
    cases x <;> first | exact (Bool.false_ne_true hx).elim | skip
    rename_i x p
    have hx : (decide (X.N[i]? = some x) && visB X.env.scope x && !(x == ("__debug__" : Str)) && !(x == ("__classdict__" : Str))) = true := hx
    simp only [Bool.and_eq_true, decide_eq_true_eq, Bool.not_eq_true'] at hx
    obtain ⟨⟨⟨h1, h2⟩, h3⟩, h4⟩ := hx
    refine ⟨⟨fun pins s σ H Q I h => (pe_var (pos := p) h1 (visB_ok h2) h3 h4).run pins s σ H Q I ?_⟩, rfl⟩
    obtain ⟨e, F, g, h⟩ := h
    unfold evalE at h
    cases q : e[i]? with
    | none => rw [q] at h; exact h.elim
    | some sl =>
      rw [q] at h
      cases sl with
      | emp => exact h.elim
      | val d =>
        obtain ⟨o, h5, v, rfl, h6⟩ := g.slots i _ q
        exact ⟨v, h5, h F H v (Step.refl g) h6 fun _ => Quiet.refl H⟩
      | valx d =>
        obtain ⟨o, h5, v, rfl, h6⟩ := g.slots i _ q
        exact ⟨v, h5, h F H v (Step.refl g) h6 fun _ => Quiet.refl H⟩
      | valy d =>
        obtain ⟨o, h5, v, rfl, h6⟩ := g.slots i _ q
        exact ⟨v, h5, h F H v (Step.refl g) h6 fun _ => Quiet.refl H⟩
      | own xs =>
        obtain ⟨a, vs, h5, h6, h7, h8⟩ := g.holds q rfl
        exact ⟨.ref a, h5, h F H _ (Step.refl g) ⟨xs, a, vs, rfl, rfl, h7, h8, h5⟩ fun _ => Quiet.refl H⟩
      | io xs =>
        obtain ⟨a, vs, h5, h6, h7, h8⟩ := g.holds q rfl
        exact ⟨.ref a, h5, h F H _ (Step.refl g) ⟨xs, a, vs, rfl, rfl, h7, h8, h5⟩ fun _ => Quiet.refl H⟩
  exact ⟨fun c x hx => (E c x hx).1, fun c x hx _ => pt_gen (E c x hx).1 (E c x hx).2 fun _ => rfl⟩
theorem snd_glob (i : Nat) : Snd w (.glob i) := by
  have E : ∀ {T : List (Addr × Str)} {cls : Nat → Addr} {W : WX} {Φ : Fun} {C : List D} {n : Nat} {X : Cx} (c : Ctx w T cls W Φ C n X) (x : Expr), chkE w X.N X.env.scope (.glob i) x = true → PE X x (tE X.K T cls W Φ C .v (.glob i)) ∧ testX x = true := by
    intro T cls W Φ C n X c x hx
    cases x <;> first | exact (Bool.false_ne_true hx).elim | skip
    rename_i x p
    have hx : (decide (w.cn[i]? = some x) && glB X.env.scope x) = true := hx
    simp only [Bool.and_eq_true, decide_eq_true_eq] at hx
    obtain ⟨h1, h2⟩ := hx
    obtain ⟨g1, g2⟩ := glB_ok h2
    refine ⟨⟨fun pins s σ H Q I h => ?_⟩, rfl⟩
    obtain ⟨e, F, g, h⟩ := h
    unfold evalE at h
    cases q : C[i]? with
    | none => rw [q] at h; exact h.elim
    | some d =>
      rw [q] at h
      obtain ⟨u, v, h3, h4, h5⟩ := c.cons i x d h1 q
      exact (pe_glob (pos := p) g1 h3 h4 g2).run pins s σ H Q I (h F H v (Step.refl g) (h5 F) fun _ => Quiet.refl H)
  exact ⟨fun c x hx => (E c x hx).1, fun c x hx _ => pt_gen (E c x hx).1 (E c x hx).2 fun _ => rfl⟩
theorem snd_lit (d : D) : Snd w (.lit d) := by
  have E : ∀ {T : List (Addr × Str)} {cls : Nat → Addr} {W : WX} {Φ : Fun} {C : List D} {n : Nat} {X : Cx} (c : Ctx w T cls W Φ C n X) (x : Expr), chkE w X.N X.env.scope (.lit d) x = true → PE X x (tE X.K T cls W Φ C .v (.lit d)) ∧ testX x = true := by
    intro T cls W Φ C n X c x hx
    cases x <;> first | exact (Bool.false_ne_true hx).elim | skip
    rename_i cc k p
    have hx : conOk d cc = true := hx
    refine ⟨⟨fun pins s σ H Q I h => ?_⟩, rfl⟩
    obtain ⟨e, F, g, h⟩ := h
    have h : ∀ F' H' v, Step X.K T e σ F H e σ F' H' → Res X.K e σ H e σ F' H' (d, .val) v → (true = true → Quiet H H') → Q v H' := h
    cases d with
    | none =>
      cases cc <;> first | exact (Bool.false_ne_true hx).elim | skip
      exact pe_non.run pins s σ H Q I (h F H .non (Step.refl g) .non fun _ => Quiet.refl H)
    | bool b =>
      cases cc <;> first | exact (Bool.false_ne_true hx).elim | skip
      have hx : b = _ := eq_of_beq hx
      subst hx
      exact pe_bl.run pins s σ H Q I (h F H _ (Step.refl g) (.bl b) fun _ => Quiet.refl H)
    | int i =>
      cases cc <;> first | exact (Bool.false_ne_true hx).elim | skip
      have hx : i = _ := of_decide_eq_true hx
      subst hx
      exact pe_int.run pins s σ H Q I (h F H _ (Step.refl g) (.int i) fun _ => Quiet.refl H)
    | str z =>
      cases cc <;> first | exact (Bool.false_ne_true hx).elim | skip
      have hx : z = _ := of_decide_eq_true hx
      subst hx
      exact pe_str.run pins s σ H Q I (h F H _ (Step.refl g) (.str z) fun _ => Quiet.refl H)
    | list xs => cases cc <;> exact (Bool.false_ne_true hx).elim
    | tuple xs => cases cc <;> exact (Bool.false_ne_true hx).elim
    | dict xs => cases cc <;> exact (Bool.false_ne_true hx).elim
  exact ⟨fun c x hx => (E c x hx).1, fun c x hx _ => pt_gen (E c x hx).1 (E c x hx).2 fun _ => rfl⟩
/-! ### operators -/
theorem snd_bin (o : BinO) {a b : IE} (ha : Snd w a) (hb : Snd w b) : Snd w (.bin o a b) := by
  have E : ∀ {T : List (Addr × Str)} {cls : Nat → Addr} {W : WX} {Φ : Fun} {C : List D} {n : Nat} {X : Cx} (c : Ctx w T cls W Φ C n X) (x : Expr), chkE w X.N X.env.scope (.bin o a b) x = true → PE X x (tE X.K T cls W Φ C .v (.bin o a b)) ∧ testX x = true := by
    intro T cls W Φ C n X c x hx
    cases x <;> first | exact (Bool.false_ne_true hx).elim | skip
    rename_i l op r p
    have hx : (decide (op = binA o) && chkE w X.N X.env.scope a l && chkE w X.N X.env.scope b r) = true := hx
    simp only [Bool.and_eq_true, decide_eq_true_eq] at hx
    obtain ⟨⟨rfl, h1⟩, h2⟩ := hx
    have P := pe_op (pos := p) (op_bin c.kl o) (ha.e c l h1) (hb.e c r h2)
    refine ⟨⟨fun pins s σ H Q I h => P.run pins s σ H Q I ?_⟩, rfl⟩
    obtain ⟨e, F, g, h⟩ := h
    unfold evalE at h
    refine ⟨e, F, g, good_imp (good_seq (q1 := pure a) (Step.refl g) h) id ?_⟩
    rintro v H1 ⟨x, e1, F1, hr, s1, r1, q1, h1⟩
    cases ok : okTwo x b with
    | false => simp only [ok] at h1; exact h1.elim
    | true =>
      simp only [ok] at h1
      refine ⟨e1, F1, s1.agr, good_imp (good_seq (q1 := pure b) s1 h1) id ?_⟩
      rintro v2 H2 ⟨y, e2, F2, hr2, s2, r2, q2, h2⟩
      cases gd : binOp o x.1 y.1 with
      | none => simp only [gd] at h2; exact h2.elim
      | some d =>
        simp only [gd] at h2
        refine ⟨F2, x.1, y.1, d, s2.agr.sub, (r1.step s2 rfl (okTwo_q ok q2)).top, r2.top, gd, fun v3 H3 m => ?_⟩
        obtain ⟨F3, s3, r3, sm⟩ := made_good (s1.trans s2) m
        refine h2 F3 H3 v3 s3 r3 fun q => ?_
        have q : (pure a && pure b) = true := q
        obtain ⟨z1, z2⟩ := Bool.and_eq_true_iff.mp q
        exact ((q1 z1).trans (q2 z2)).trans (Quiet.of sm)
  exact ⟨fun c x hx => (E c x hx).1, fun c x hx _ => pt_gen (E c x hx).1 (E c x hx).2 fun _ => rfl⟩
/-! ### generated -/
theorem snd_neg {a : IE} (ha : Snd w a) : Snd w (.neg a) := by
  have E : ∀ {T : List (Addr × Str)} {cls : Nat → Addr} {W : WX} {Φ : Fun} {C : List D} {n : Nat} {X : Cx} (c : Ctx w T cls W Φ C n X) (x : Expr), chkE w X.N X.env.scope (.neg a) x = true → PE X x (tE X.K T cls W Φ C .v (.neg a)) ∧ testX x = true := by
    intro T cls W Φ C n X c x hx
    cases x <;> first | exact (Bool.false_ne_true hx).elim | skip
    rename_i op l p
    have hx : (decide (op = .USub) && chkE w X.N X.env.scope a l) = true := hx
    simp only [Bool.and_eq_true, decide_eq_true_eq] at hx
    obtain ⟨rfl, h1⟩ := hx
    have P := pe_un (pos := p) un_neg (ha.e c l h1)
    refine ⟨⟨fun pins s σ H Q I h => P.run pins s σ H Q I ?_⟩, rfl⟩
    obtain ⟨e, F, g, h⟩ := h
    unfold evalE at h
    refine ⟨e, F, g, good_imp (good_seq (q1 := pure a) (Step.refl g) h) id ?_⟩
    rintro v H1 ⟨x, e1, F1, hr, s1, r1, q1, h1⟩
    obtain ⟨d, f⟩ := x
    cases d <;> first | exact h1.elim | skip
    rename_i i
    cases r1.top.int
    exact ⟨i, rfl, h1 F1 H1 _ s1 (.int (-i)) q1⟩
  exact ⟨fun c x hx => (E c x hx).1, fun c x hx _ => pt_gen (E c x hx).1 (E c x hx).2 fun _ => rfl⟩
theorem snd_tup {es : IE} (hs : SndS w es) : Snd w (.tup es) := by
  have E : ∀ {T : List (Addr × Str)} {cls : Nat → Addr} {W : WX} {Φ : Fun} {C : List D} {n : Nat} {X : Cx} (c : Ctx w T cls W Φ C n X) (x : Expr), chkE w X.N X.env.scope (.tup es) x = true → PE X x (tE X.K T cls W Φ C .v (.tup es)) ∧ testX x = true := by
    intro T cls W Φ C n X c x hx
    cases x <;> first | exact (Bool.false_ne_true hx).elim | skip
    rename_i xs k p
    have hx : (chkS w X.N X.env.scope es xs && xs.all plainX) = true := hx
    simp only [Bool.and_eq_true] at hx
    obtain ⟨h1, h2⟩ := hx
    have P := pe_tup (pos := p) (x1 := k) (hs.k c xs h1 h2)
    refine ⟨⟨fun pins s σ H Q I h => P.run pins s σ H Q I ?_⟩, rfl⟩
    obtain ⟨e, F, g, h⟩ := h
    unfold evalE at h
    refine ⟨e, F, g, good_impL (good_seqL (q1 := pure es) (Step.refl g) h) fun vs H1 hh => ?_⟩
    obtain ⟨ds, e1, F1, hr, s1, r1, q1, h1⟩ := hh
    have h1 : GoodE X.K T cls W (pure es) (if ds.length ≤ lim then Out.ok (.tuple ds, .val) e1 else .stuck) e σ F H Q := h1
    split at h1
    · rename_i hz
      refine ⟨by rw [r1.length, ← lim_eq]; exact hz, fun p hp => ?_⟩
      obtain ⟨F2, s2, r2, sm⟩ := made_good s1 (.inr (.inr ⟨p, vs, ds, hp, rfl, rfl, rfl, r1⟩) : Made X.K F1 H1 (.tuple ds) (.ref p) _)
      exact h1 F2 _ _ s2 r2 fun q => (q1 q).trans (Quiet.of sm)
    · exact h1.elim
  exact ⟨fun c x hx => (E c x hx).1, fun c x hx _ => pt_gen (E c x hx).1 (E c x hx).2 fun _ => rfl⟩
theorem snd_lst {es : IE} (hs : SndS w es) : Snd w (.lst es) := by
  have E : ∀ {T : List (Addr × Str)} {cls : Nat → Addr} {W : WX} {Φ : Fun} {C : List D} {n : Nat} {X : Cx} (c : Ctx w T cls W Φ C n X) (x : Expr), chkE w X.N X.env.scope (.lst es) x = true → PE X x (tE X.K T cls W Φ C .v (.lst es)) ∧ testX x = true := by
    intro T cls W Φ C n X c x hx
    cases x <;> first | exact (Bool.false_ne_true hx).elim | skip
    rename_i xs p
    have hx : (chkS w X.N X.env.scope es xs && xs.all plainX) = true := hx
    simp only [Bool.and_eq_true] at hx
    obtain ⟨h1, h2⟩ := hx
    have P := pe_lst (pos := p) (hs.k c xs h1 h2)
    refine ⟨⟨fun pins s σ H Q I h => P.run pins s σ H Q I ?_⟩, rfl⟩
    obtain ⟨e, F, g, h⟩ := h
    unfold evalE at h
    refine ⟨e, F, g, good_impL (good_seqL (q1 := pure es) (Step.refl g) h) fun vs H1 hh => ?_⟩
    obtain ⟨ds, e1, F1, hr, s1, r1, q1, h1⟩ := hh
    have h1 : GoodE X.K T cls W (pure es) (if ds.length ≤ lim then Out.ok (.list ds, .fr) e1 else .stuck) e σ F H Q := h1
    split at h1
    · rename_i hz
      refine ⟨by rw [r1.length, ← lim_eq]; exact hz, fun p hp => ?_⟩
      obtain ⟨F2, s2, r2, sm⟩ := made_good s1 (.inr (.inl ⟨p, vs, ds, hp, rfl, rfl, rfl, r1⟩) : Made X.K F1 H1 (.list ds) (.ref p) _)
      exact h1 F2 _ _ s2 r2 fun q => (q1 q).trans (Quiet.of sm)
    · exact h1.elim
  exact ⟨fun c x hx => (E c x hx).1, fun c x hx _ => pt_gen (E c x hx).1 (E c x hx).2 fun _ => rfl⟩
theorem snd_ix {a b : IE} (ha : Snd w a) (hb : Snd w b) : Snd w (.ix a b) := by
  have E : ∀ {T : List (Addr × Str)} {cls : Nat → Addr} {W : WX} {Φ : Fun} {C : List D} {n : Nat} {X : Cx} (c : Ctx w T cls W Φ C n X) (x : Expr), chkE w X.N X.env.scope (.ix a b) x = true → PE X x (tE X.K T cls W Φ C .v (.ix a b)) ∧ testX x = true := by
    intro T cls W Φ C n X c x hx
    cases x <;> first | exact (Bool.false_ne_true hx).elim | skip
    rename_i l r p
    have hx : (noSlice r && chkE w X.N X.env.scope a l && chkE w X.N X.env.scope b r) = true := hx
    simp only [Bool.and_eq_true] at hx
    obtain ⟨⟨h0, h1⟩, h2⟩ := hx
    have P := pe_ix (pos := p) ix_seq (ha.e c l h1) (hb.e c r h2) (ix_plain h0)
    refine ⟨⟨fun pins s σ H Q I h => P.run pins s σ H Q I ?_⟩, rfl⟩
    obtain ⟨e, F, g, h⟩ := h
    unfold evalE at h
    refine ⟨e, F, g, good_imp (good_seq (q1 := pure a) (Step.refl g) h) id ?_⟩
    rintro v H1 ⟨x, e1, F1, hr, s1, r1, q1, h1⟩
    cases ok : okTwo x b with
    | false => simp only [ok] at h1; exact h1.elim
    | true =>
      simp only [ok] at h1
      refine ⟨e1, F1, s1.agr, good_imp (good_seq (q1 := pure b) s1 h1) id ?_⟩
      rintro v2 H2 ⟨y, e2, F2, hr2, s2, r2, q2, h2⟩
      have t1 : Top X.K F2 H2 v x.1 := (r1.step s2 rfl (okTwo_q ok q2)).top
      have qq : (pure a && pure b) = true → Quiet H H2 := fun q => by
        obtain ⟨z1, z2⟩ := Bool.and_eq_true_iff.mp q
        exact (q1 z1).trans (q2 z2)
      obtain ⟨dx, fx⟩ := x
      obtain ⟨dy, fy⟩ := y
      cases dx <;> first | exact h2.elim | (cases dy <;> first | exact h2.elim | skip)
      · rename_i xs i
        cases r2.top.int
        obtain ⟨p0, vs, rfl, hs, hd⟩ := t1.lst s2.agr.sub
        have h2 : GoodE X.K T cls W (pure a && pure b) (match itemAt xs i with | some d => Out.ok (d, Fl.val) e2 | none => .stuck) e σ F H Q := h2
        cases q : itemAt xs i with
        | none => simp only [q] at h2; exact h2.elim
        | some d =>
          simp only [q] at h2
          obtain ⟨v, hv, hdv⟩ := item_dp hd q
          exact .inl ⟨p0, vs, i, v, rfl, rfl, hs, hv, h2 F2 H2 v (s1.trans s2) hdv qq⟩
      · rename_i xs i
        cases r2.top.int
        obtain ⟨p0, vs, rfl, hs, hd⟩ := t1.tup s2.agr.sub
        have h2 : GoodE X.K T cls W (pure a && pure b) (match itemAt xs i with | some d => Out.ok (d, Fl.val) e2 | none => .stuck) e σ F H Q := h2
        cases q : itemAt xs i with
        | none => simp only [q] at h2; exact h2.elim
        | some d =>
          simp only [q] at h2
          obtain ⟨v, hv, hdv⟩ := item_dp hd q
          exact .inr (.inl ⟨p0, vs, i, v, rfl, rfl, hs, hv, h2 F2 H2 v (s1.trans s2) hdv qq⟩)
  exact ⟨fun c x hx => (E c x hx).1, fun c x hx _ => pt_gen (E c x hx).1 (E c x hx).2 fun _ => rfl⟩
theorem snd_cmp (o : CmpO) {a b : IE} (ha : Snd w a) (hb : Snd w b) : Snd w (.cmp o a b) := by
  have E : ∀ {T : List (Addr × Str)} {cls : Nat → Addr} {W : WX} {Φ : Fun} {C : List D} {n : Nat} {X : Cx} (c : Ctx w T cls W Φ C n X) (x : Expr), chkE w X.N X.env.scope (.cmp o a b) x = true →
      PE X x (tE X.K T cls W Φ C .v (.cmp o a b)) ∧ PT X x (tT X.K T cls W Φ C (.cmp o a b)) := by
    intro T cls W Φ C n X c x hx
    cases x <;> first | exact (Bool.false_ne_true hx).elim | skip
    rename_i l ops rs p
    match ops, rs, hx with
    | [op], [r], hx =>
      have hx : (decide (op = cmpA o) && noSet r && chkE w X.N X.env.scope a l && chkE w X.N X.env.scope b r) = true := hx
      simp only [Bool.and_eq_true, decide_eq_true_eq] at hx
      obtain ⟨⟨⟨rfl, h0⟩, h1⟩, h2⟩ := hx
      have hr : Room 5 X.A := c.room.mono (Nat.le_add_left _ _)
      have key : ∀ {σ : L2.St} {H : Hp} {e : En} {F : Hp} {Q : VK}, Agr X.K T e σ F H → GoodE X.K T cls W (pure (.cmp o a b)) (evalE Φ C (.cmp o a b) .v e) e σ F H Q →
          tOp (rCmp X.K o) (tE X.K T cls W Φ C .v a) (tE X.K T cls W Φ C .v b) σ H Q := by
        intro σ H e F Q g h
        unfold evalE at h
        refine ⟨e, F, g, good_imp (good_seq (q1 := pure a) (Step.refl g) h) id ?_⟩
        rintro v H1 ⟨x, e1, F1, hr, s1, r1, q1, h1⟩
        cases ok : okTwo x b with
        | false => simp only [ok] at h1; exact h1.elim
        | true =>
          simp only [ok] at h1
          refine ⟨e1, F1, s1.agr, good_imp (good_seq (q1 := pure b) s1 h1) id ?_⟩
          rintro v2 H2 ⟨y, e2, F2, hr2, s2, r2, q2, h2⟩
          have t1 : Top X.K F2 H2 v x.1 := (r1.step s2 rfl (okTwo_q ok q2)).top
          have qq : (pure a && pure b) = true → Quiet H H2 := fun q => by
            obtain ⟨z1, z2⟩ := Bool.and_eq_true_iff.mp q
            exact (q1 z1).trans (q2 z2)
          cases gd : cmpOp o x.1 y.1 with
          | none => simp only [gd] at h2; exact h2.elim
          | some d =>
            simp only [gd] at h2
            exact ⟨F2, x.1, y.1, d, s2.agr.sub, t1, r2.top, gd, h2 F2 H2 _ (s1.trans s2) (.bl d) qq⟩
      refine ⟨⟨fun pins s σ H Q I h => (pe_cmpR (pos := p) (op_cmp hr o) (ha.e c l h1) (hb.e c r h2) (behind_plain h0)).run pins s σ H Q I ?_⟩, ⟨fun pins s σ H Q I h => (pt_cmpR (pos := p) (op_cmp hr o) (ha.e c l h1) (hb.e c r h2) (behind_plain h0)).run pins s σ H Q I ?_⟩⟩
      · obtain ⟨e, F, g, h⟩ := h
        exact key g h
      · obtain ⟨e, F, g, h⟩ := h
        exact key g (goodB_val2 (cmp_bool (o := o)) rfl h)
    | [], _, hx => exact (Bool.false_ne_true hx).elim
    | [_], [], hx => exact (Bool.false_ne_true hx).elim
    | [_], _ :: _ :: _, hx => exact (Bool.false_ne_true hx).elim
    | _ :: _ :: _, _, hx => exact (Bool.false_ne_true hx).elim
  exact ⟨fun c x hx => (E c x hx).1, fun c x hx _ => (E c x hx).2⟩
theorem snd_chain (o o' : CmpO) {a b d : IE} (ha : Snd w a) (hb : Snd w b) (hd : Snd w d) : Snd w (.chain o o' a b d) := by
  have E : ∀ {T : List (Addr × Str)} {cls : Nat → Addr} {W : WX} {Φ : Fun} {C : List D} {n : Nat} {X : Cx} (c : Ctx w T cls W Φ C n X) (x : Expr), chkE w X.N X.env.scope (.chain o o' a b d) x = true →
      PE X x (tE X.K T cls W Φ C .v (.chain o o' a b d)) ∧ PT X x (tT X.K T cls W Φ C (.chain o o' a b d)) := by
    intro T cls W Φ C n X c x hx
    cases x <;> first | exact (Bool.false_ne_true hx).elim | skip
    rename_i l ops rs p
    match ops, rs, hx with
    | [op, op'], [r, t], hx =>
      have hx : (decide (op = cmpA o) && decide (op' = cmpA o') && noSet r && noSet t && chkE w X.N X.env.scope a l && chkE w X.N X.env.scope b r && chkE w X.N X.env.scope d t) = true := hx
      simp only [Bool.and_eq_true, decide_eq_true_eq] at hx
      obtain ⟨⟨⟨⟨⟨⟨rfl, rfl⟩, h0⟩, h00⟩, h1⟩, h2⟩, h3⟩ := hx
      have hr : Room 5 X.A := c.room.mono (Nat.le_add_left _ _)
      have key : ∀ {σ : L2.St} {H : Hp} {e : En} {F : Hp} {Q : VK}, Agr X.K T e σ F H → GoodE X.K T cls W (pure (.chain o o' a b d)) (evalE Φ C (.chain o o' a b d) .v e) e σ F H Q →
          tChain (rCmp X.K o) (rCmp X.K o') (tE X.K T cls W Φ C .v a) (tE X.K T cls W Φ C .v b) (tE X.K T cls W Φ C .v d) σ H Q := by
        intro σ H e F Q g h
        unfold evalE at h
        refine ⟨e, F, g, good_imp (good_seq (q1 := pure a) (Step.refl g) h) id ?_⟩
        rintro v H1 ⟨x, e1, F1, hr, s1, r1, q1, h1⟩
        cases ok : okTwo x b with
        | false => simp only [ok] at h1; exact h1.elim
        | true =>
          simp only [ok] at h1
          refine ⟨e1, F1, s1.agr, good_imp (good_seq (q1 := pure b) s1 h1) id ?_⟩
          rintro v2 H2 ⟨y, e2, F2, hr2, s2, r2, q2, h2⟩
          have t1 : Top X.K F2 H2 v x.1 := (r1.step s2 rfl (okTwo_q ok q2)).top
          have qq : (pure a && pure b) = true → Quiet H H2 := fun q => by
            obtain ⟨z1, z2⟩ := Bool.and_eq_true_iff.mp q
            exact (q1 z1).trans (q2 z2)
          cases gd : cmpOp o x.1 y.1 with
          | none => simp only [gd] at h2; exact h2.elim
          | some z =>
            refine ⟨F2, x.1, y.1, z, s2.agr.sub, t1, r2.top, gd, z, rfl, ?_⟩
            cases z with
            | false =>
              simp only [gd] at h2
              rw [if_neg Bool.false_ne_true]
              refine h2 F2 H2 _ (s1.trans s2) (.bl false) fun q => qq ?_
              have q : (pure a && pure b && pure d) = true := q
              exact (Bool.and_eq_true_iff.mp q).1
            | true =>
              rw [if_pos rfl]
              cases ok2 : okTwo y d with
              | false => simp only [gd, ok2] at h2; exact h2.elim
              | true =>
                simp only [gd, ok2] at h2
                refine ⟨e2, F2, s2.agr, good_imp (good_seq (q1 := pure d) (s1.trans s2) h2) id ?_⟩
                rintro v3 H3 ⟨y3, e3, F3, hr3, s3, r3, q3, h3⟩
                cases gd2 : cmpOp o' y.1 y3.1 with
                | none => simp only [gd2] at h3; exact h3.elim
                | some z2 =>
                  simp only [gd2] at h3
                  refine ⟨F3, y.1, y3.1, z2, s3.agr.sub, (r2.step s3 rfl (okTwo_q ok2 q3)).top, r3.top, gd2, h3 F3 H3 _ ((s1.trans s2).trans s3) (.bl z2) fun q => ?_⟩
                  have q : (pure a && pure b && pure d) = true := q
                  obtain ⟨z4, z5⟩ := Bool.and_eq_true_iff.mp q
                  exact (qq z4).trans (q3 z5)
      refine ⟨⟨fun pins s σ H Q I h => (pe_chain (pos := p) (op_cmp hr o) (op_cmp hr o') (ha.e c l h1) (hb.e c r h2) (hd.e c t h3) (behind_plain h00)).run pins s σ H Q I ?_⟩, ⟨fun pins s σ H Q I h => (pt_chain (pos := p) (op_cmp hr o) (op_cmp hr o') (ha.e c l h1) (hb.e c r h2) (hd.e c t h3) (behind_plain h00)).run pins s σ H Q I ?_⟩⟩
      · obtain ⟨e, F, g, h⟩ := h
        exact key g h
      · obtain ⟨e, F, g, h⟩ := h
        exact key g (goodB_val2 (chain_bool (o := o) (o' := o')) rfl h)
    | [], _, hx => exact (Bool.false_ne_true hx).elim
    | [_], [], hx => exact (Bool.false_ne_true hx).elim
    | [_], _ :: _, hx => exact (Bool.false_ne_true hx).elim
    | [_, _], [], hx => exact (Bool.false_ne_true hx).elim
    | [_, _], [_], hx => exact (Bool.false_ne_true hx).elim
    | [_, _], _ :: _ :: _ :: _, hx => exact (Bool.false_ne_true hx).elim
    | _ :: _ :: _ :: _, _, hx => exact (Bool.false_ne_true hx).elim
  exact ⟨fun c x hx => (E c x hx).1, fun c x hx _ => (E c x hx).2⟩
theorem snd_not {a : IE} (ha : Snd w a) : Snd w (.notE a) := by
  have E : ∀ {T : List (Addr × Str)} {cls : Nat → Addr} {W : WX} {Φ : Fun} {C : List D} {n : Nat} {X : Cx} (c : Ctx w T cls W Φ C n X) (x : Expr), chkE w X.N X.env.scope (.notE a) x = true →
      PE X x (tE X.K T cls W Φ C .v (.notE a)) ∧ PT X x (tT X.K T cls W Φ C (.notE a)) := by
    intro T cls W Φ C n X c x hx
    cases x <;> first | exact (Bool.false_ne_true hx).elim | skip
    rename_i op l p
    have hx : (decide (op = .Not) && chkE w X.N X.env.scope a l && chkB a) = true := hx
    simp only [Bool.and_eq_true, decide_eq_true_eq] at hx
    obtain ⟨⟨rfl, h1⟩, h2⟩ := hx
    refine ⟨⟨fun pins s σ H Q I h => (pe_notT (pos := p) (ha.e c l h1)).run pins s σ H Q I ?_⟩, ⟨fun pins s σ H Q I h => (pt_not (pos := p) (ha.t c l h1 h2)).run pins s σ H Q I ?_⟩⟩
    · obtain ⟨e, F, g, h⟩ := h
      refine ⟨e, F, g, ?_⟩
      have h : GoodE X.K T cls W (pure a) ((asB (evalE Φ C a .v e)).bind fun b e1 => Out.ok (.bool (!b), .val) e1) e σ F H Q := h
      cases r : evalE Φ C a .v e with
      | stuck => rw [r] at h; exact h
      | exc cc d e1 => rw [r] at h; exact h
      | ok x e1 =>
        rw [r] at h
        intro F1 H1 v s1 r1 q1
        have h : GoodE X.K T cls W (pure a) ((match truth x.1 with | some b => Out.ok b e1 | none => .stuck).bind fun b e1 => Out.ok (.bool (!b), .val) e1) e σ F H Q := h
        cases t : truth x.1 with
        | none => rw [t] at h; exact h.elim
        | some b =>
          rw [t] at h
          exact ⟨b, truV_top r1.top s1.agr.sub t, h F1 H1 _ s1 (.bl _) q1⟩
    · obtain ⟨e, F, g, h⟩ := h
      refine ⟨e, F, g, ?_⟩
      have h : GoodB X.K T cls W (pure a) (asB ((asB (evalE Φ C a .t e)).bind fun b e1 => Out.ok (.bool (!b), .val) e1)) e σ F H Q := h
      cases r : asB (evalE Φ C a .t e) with
      | stuck => rw [r] at h; exact h
      | exc cc d e1 => rw [r] at h; exact h
      | ok b e1 =>
        rw [r] at h
        exact fun F1 H1 s1 q1 => h F1 H1 s1 q1
  exact ⟨fun c x hx => (E c x hx).1, fun c x hx _ => (E c x hx).2⟩
theorem and_t {a b : IE} {e : En} : asB (evalE Φ C (.andE a b) .t e) = (asB (evalE Φ C a .t e)).bind fun c e1 => match c with | true => asB (evalE Φ C b .t e1) | false => .ok false e1 := by
  have u : evalE Φ C (.andE a b) .t e = (asB (evalE Φ C a .t e)).bind fun c e1 => match c with | true => (asB (evalE Φ C b .t e1)).bind fun c2 e2 => .ok (.bool c2, .val) e2 | false => .ok (.bool false, .val) e1 := by
    first
    | rfl
    | (rw [evalE]
       cases asB (evalE Φ C a .t e) with
       | ok c e1 => cases c <;> rfl
       | exc _ _ _ => rfl
       | stuck => rfl)
  rw [u]
  cases asB (evalE Φ C a .t e) with
  | stuck => rfl
  | exc c d e1 => rfl
  | ok c e1 =>
    cases c with
    | false => rfl
    | true =>
      show asB ((asB (evalE Φ C b .t e1)).bind fun c2 e2 => .ok (.bool c2, .val) e2) = asB (evalE Φ C b .t e1)
      cases asB (evalE Φ C b .t e1) <;> rfl
theorem snd_and {a b : IE} (ha : Snd w a) (hb : Snd w b) : Snd w (.andE a b) := by
  have E : ∀ {T : List (Addr × Str)} {cls : Nat → Addr} {W : WX} {Φ : Fun} {C : List D} {n : Nat} {X : Cx} (c : Ctx w T cls W Φ C n X) (x : Expr), chkE w X.N X.env.scope (.andE a b) x = true →
      PE X x (tE X.K T cls W Φ C .v (.andE a b)) ∧ PT X x (tT X.K T cls W Φ C (.andE a b)) := by
    intro T cls W Φ C n X c x hx
    cases x <;> first | exact (Bool.false_ne_true hx).elim | skip
    rename_i op vs p
    match vs, hx with
    | [], hx => exact (Bool.false_ne_true hx).elim
    | [_], hx => exact (Bool.false_ne_true hx).elim
    | l :: y :: r, hx =>
      have facts : op = .And ∧ chkE w X.N X.env.scope a l = true ∧ chkB a = true ∧ PE X (.BoolOp .And (y :: r) p) (tE X.K T cls W Φ C .v b) ∧ PW X (.BoolOp .And (y :: r) p) (tT X.K T cls W Φ C b) := by
        cases r with
        | nil =>
          have hx : (decide (op = .And) && chkE w X.N X.env.scope a l && chkB a && (chkE w X.N X.env.scope b y && chkB b)) = true := hx
          simp only [Bool.and_eq_true, decide_eq_true_eq] at hx
          obtain ⟨⟨⟨h0, h1⟩, h2⟩, z1, z2⟩ := hx
          exact ⟨h0, h1, h2, pe_one (hb.e c y z1), pw_and1 (hb.t c y z1 z2)⟩
        | cons z rr =>
          have hx : (decide (op = .And) && chkE w X.N X.env.scope a l && chkB a && chkE w X.N X.env.scope b (.BoolOp .And (y :: z :: rr) p)) = true := hx
          simp only [Bool.and_eq_true, decide_eq_true_eq] at hx
          obtain ⟨⟨⟨h0, h1⟩, h2⟩, h3⟩ := hx
          have hb2 : chkB b = true := by
            cases b <;> first | rfl | (exact (Bool.false_ne_true h3).elim)
          refine ⟨h0, h1, h2, hb.e c _ h3, ⟨fun wh pins s σ H Q I h => ?_⟩⟩
          exact (hb.t c _ h3 hb2).run pins s σ H Q I h
      obtain ⟨rfl, h1, h2, rest⟩ := facts
      refine ⟨⟨fun pins s σ H Q I h => (pe_and (pos := p) (ha.e c l h1) rest.1).run pins s σ H Q I ?_⟩, ⟨fun pins s σ H Q I h => ((pw_and (pos := p) (ha.t c l h1 h2) rest.2).pt).run pins s σ H Q I ?_⟩⟩
      · obtain ⟨e, F, g, h⟩ := h
        unfold evalE at h
        refine ⟨e, F, g, good_imp (good_seq (q1 := pure a) (Step.refl g) h) id ?_⟩
        rintro v H1 ⟨x, e1, F1, hr, s1, r1, q1, h1⟩
        obtain ⟨d, f⟩ := x
        cases d <;> first | exact h1.elim | skip
        rename_i z
        cases r1.top.bool
        refine ⟨z, rfl, ?_⟩
        cases z
        · rw [if_neg Bool.false_ne_true]
          refine h1 F1 H1 _ s1 (.bl _) fun q => ?_
          have q : (pure a && pure b) = true := q
          exact q1 (Bool.and_eq_true_iff.mp q).1
        · rw [if_pos rfl]
          refine ⟨e1, F1, s1.agr, ?_⟩
          cases hr2 : evalE Φ C b .v e1 with
          | stuck => simp only [hr2] at h1; exact h1.elim
          | exc cc dd e2 => simp only [hr2] at h1; exact fun F2 H2 dx v s2 => h1 F2 H2 dx v (s1.trans s2)
          | ok y e2 =>
            simp only [hr2] at h1
            refine fun F2 H2 v s2 r2 q2 => h1 F2 H2 v (s1.trans s2) (res_cur s1 r2) fun q => ?_
            have q : (pure a && pure b) = true := q
            obtain ⟨z1, z2⟩ := Bool.and_eq_true_iff.mp q
            exact (q1 z1).trans (q2 z2)
      · obtain ⟨e, F, g, h⟩ := h
        rw [and_t] at h
        refine ⟨e, F, g, good_impB (goodB_seq (q1 := pure a) (Step.refl g) h) ?_⟩
        rintro z H1 ⟨e1, F1, hr, s1, q1, h1⟩
        cases z
        · rw [if_neg Bool.false_ne_true]
          refine h1 F1 H1 s1 fun q => ?_
          have q : (pure a && pure b) = true := q
          exact q1 (Bool.and_eq_true_iff.mp q).1
        · rw [if_pos rfl]
          refine ⟨e1, F1, s1.agr, ?_⟩
          cases hr2 : asB (evalE Φ C b .t e1) with
          | stuck => simp only [hr2] at h1; exact h1.elim
          | exc cc dd e2 => simp only [hr2] at h1; exact fun F2 H2 dx v s2 => h1 F2 H2 dx v (s1.trans s2)
          | ok y e2 =>
            simp only [hr2] at h1
            refine fun F2 H2 s2 q2 => h1 F2 H2 (s1.trans s2) fun q => ?_
            have q : (pure a && pure b) = true := q
            obtain ⟨z1, z2⟩ := Bool.and_eq_true_iff.mp q
            exact (q1 z1).trans (q2 z2)
  exact ⟨fun c x hx => (E c x hx).1, fun c x hx _ => (E c x hx).2⟩
theorem or_t {a b : IE} {e : En} : asB (evalE Φ C (.orE a b) .t e) = (asB (evalE Φ C a .t e)).bind fun c e1 => match c with | false => asB (evalE Φ C b .t e1) | true => .ok true e1 := by
  have u : evalE Φ C (.orE a b) .t e = (asB (evalE Φ C a .t e)).bind fun c e1 => match c with | false => (asB (evalE Φ C b .t e1)).bind fun c2 e2 => .ok (.bool c2, .val) e2 | true => .ok (.bool true, .val) e1 := by
    rw [evalE]
    cases asB (evalE Φ C a .t e) with
    | ok c e1 => cases c <;> rfl
    | exc _ _ _ => rfl
    | stuck => rfl
  rw [u]
  cases asB (evalE Φ C a .t e) with
  | stuck => rfl
  | exc c d e1 => rfl
  | ok c e1 =>
    cases c with
    | true => rfl
    | false =>
      show asB ((asB (evalE Φ C b .t e1)).bind fun c2 e2 => .ok (.bool c2, .val) e2) = asB (evalE Φ C b .t e1)
      cases asB (evalE Φ C b .t e1) <;> rfl
theorem snd_or {a b : IE} (ha : Snd w a) (hb : Snd w b) : Snd w (.orE a b) := by
  have E : ∀ {T : List (Addr × Str)} {cls : Nat → Addr} {W : WX} {Φ : Fun} {C : List D} {n : Nat} {X : Cx} (c : Ctx w T cls W Φ C n X) (x : Expr), chkE w X.N X.env.scope (.orE a b) x = true →
      PE X x (tE X.K T cls W Φ C .v (.orE a b)) ∧ PT X x (tT X.K T cls W Φ C (.orE a b)) := by
    intro T cls W Φ C n X c x hx
    cases x <;> first | exact (Bool.false_ne_true hx).elim | skip
    rename_i op vs p
    match vs, hx with
    | [], hx => exact (Bool.false_ne_true hx).elim
    | [_], hx => exact (Bool.false_ne_true hx).elim
    | l :: y :: r, hx =>
      have facts : op = .Or ∧ chkE w X.N X.env.scope a l = true ∧ chkB a = true ∧ PE X (.BoolOp .Or (y :: r) p) (tE X.K T cls W Φ C .v b) ∧ PW X (.BoolOp .Or (y :: r) p) (tT X.K T cls W Φ C b) := by
        cases r with
        | nil =>
          have hx : (decide (op = .Or) && chkE w X.N X.env.scope a l && chkB a && (chkE w X.N X.env.scope b y && chkB b)) = true := hx
          simp only [Bool.and_eq_true, decide_eq_true_eq] at hx
          obtain ⟨⟨⟨h0, h1⟩, h2⟩, z1, z2⟩ := hx
          exact ⟨h0, h1, h2, pe_one (hb.e c y z1), pw_or1 (hb.t c y z1 z2)⟩
        | cons z rr =>
          have hx : (decide (op = .Or) && chkE w X.N X.env.scope a l && chkB a && chkE w X.N X.env.scope b (.BoolOp .Or (y :: z :: rr) p)) = true := hx
          simp only [Bool.and_eq_true, decide_eq_true_eq] at hx
          obtain ⟨⟨⟨h0, h1⟩, h2⟩, h3⟩ := hx
          have hb2 : chkB b = true := by
            cases b <;> first | rfl | (exact (Bool.false_ne_true h3).elim)
          refine ⟨h0, h1, h2, hb.e c _ h3, ⟨fun wh pins s σ H Q I h => ?_⟩⟩
          exact (hb.t c _ h3 hb2).run pins s σ H Q I h
      obtain ⟨rfl, h1, h2, rest⟩ := facts
      refine ⟨⟨fun pins s σ H Q I h => (pe_or (pos := p) (ha.e c l h1) rest.1).run pins s σ H Q I ?_⟩, ⟨fun pins s σ H Q I h => ((pw_or (pos := p) (ha.t c l h1 h2) rest.2).pt).run pins s σ H Q I ?_⟩⟩
      · obtain ⟨e, F, g, h⟩ := h
        unfold evalE at h
        refine ⟨e, F, g, good_imp (good_seq (q1 := pure a) (Step.refl g) h) id ?_⟩
        rintro v H1 ⟨x, e1, F1, hr, s1, r1, q1, h1⟩
        obtain ⟨d, f⟩ := x
        cases d <;> first | exact h1.elim | skip
        rename_i z
        cases r1.top.bool
        refine ⟨z, rfl, ?_⟩
        cases z
        · rw [if_neg Bool.false_ne_true]
          refine ⟨e1, F1, s1.agr, ?_⟩
          cases hr2 : evalE Φ C b .v e1 with
          | stuck => simp only [hr2] at h1; exact h1.elim
          | exc cc dd e2 => simp only [hr2] at h1; exact fun F2 H2 dx v s2 => h1 F2 H2 dx v (s1.trans s2)
          | ok y e2 =>
            simp only [hr2] at h1
            refine fun F2 H2 v s2 r2 q2 => h1 F2 H2 v (s1.trans s2) (res_cur s1 r2) fun q => ?_
            have q : (pure a && pure b) = true := q
            obtain ⟨z1, z2⟩ := Bool.and_eq_true_iff.mp q
            exact (q1 z1).trans (q2 z2)
        · rw [if_pos rfl]
          refine h1 F1 H1 _ s1 (.bl _) fun q => ?_
          have q : (pure a && pure b) = true := q
          exact q1 (Bool.and_eq_true_iff.mp q).1
      · obtain ⟨e, F, g, h⟩ := h
        rw [or_t] at h
        refine ⟨e, F, g, good_impB (goodB_seq (q1 := pure a) (Step.refl g) h) ?_⟩
        rintro z H1 ⟨e1, F1, hr, s1, q1, h1⟩
        cases z
        · rw [if_neg Bool.false_ne_true]
          refine ⟨e1, F1, s1.agr, ?_⟩
          cases hr2 : asB (evalE Φ C b .t e1) with
          | stuck => simp only [hr2] at h1; exact h1.elim
          | exc cc dd e2 => simp only [hr2] at h1; exact fun F2 H2 dx v s2 => h1 F2 H2 dx v (s1.trans s2)
          | ok y e2 =>
            simp only [hr2] at h1
            refine fun F2 H2 s2 q2 => h1 F2 H2 (s1.trans s2) fun q => ?_
            have q : (pure a && pure b) = true := q
            obtain ⟨z1, z2⟩ := Bool.and_eq_true_iff.mp q
            exact (q1 z1).trans (q2 z2)
        · rw [if_pos rfl]
          refine h1 F1 H1 s1 fun q => ?_
          have q : (pure a && pure b) = true := q
          exact q1 (Bool.and_eq_true_iff.mp q).1
  exact ⟨fun c x hx => (E c x hx).1, fun c x hx _ => (E c x hx).2⟩
end
end TI

set_option Elab.async false
set_option autoImplicit false
set_option maxRecDepth 100000
set_option maxHeartbeats 4000000
set_option linter.all false
/-! TI7: results that are kept; lists of expressions; calls. -/
namespace TI
open PySem PySem.Spec PyProof.Rows L2
section
variable {K : PySem.W.Frag} {T : List (Addr × Str)} {cls : Nat → Addr} {W : WX} {q q1 : Bool} {e e1 e2 : En} {σ : L2.St} {F F1 F2 H H1 H2 : Hp} {Q : VK} {d : D} {v : V}
/-- what follows on r: X; or its exception goes on -/
def OutH (K : PySem.W.Frag) (T : List (Addr × Str)) (cls : Nat → Addr) (W : WX) (e : En) (σ : L2.St) (F H : Hp) {α : Type} (r : Out α) (X : α → En → Prop) : Prop := match r with
  | .ok a e2 => X a e2
  | .exc c d e2 => ∀ F' H' dx v, Step K T e σ F H e2 σ F' H' → H' dx = some (.xd [(("what" : Str), v)]) → Dp K F' v d → W (.ref (cls c)) (some dx) σ H'
  | .stuck => False
theorem outH_E {α : Type} {r : Out α} {g : α → En → Out (D × Fl)} (h : GoodE K T cls W q (r.bind g) e σ F H Q) : OutH K T cls W e σ F H r fun x e2 => GoodE K T cls W q (g x e2) e σ F H Q := by
  cases r <;> exact h
theorem outH_B {α : Type} {r : Out α} {g : α → En → Out Bool} {QB : Bool → Hp → Prop} (h : GoodB K T cls W q (r.bind g) e σ F H QB) : OutH K T cls W e σ F H r fun x e2 => GoodB K T cls W q (g x e2) e σ F H QB := by
  cases r <;> exact h
theorem outH_L {α : Type} {R : Hp → Hp → List V → List D → Prop} {r : Out α} {g : α → En → Out (List D)} {QL : List V → Hp → Prop} (h : GoodL K T cls W q R (r.bind g) e σ F H QL) : OutH K T cls W e σ F H r fun x e2 => GoodL K T cls W q R (g x e2) e σ F H QL := by
  cases r <;> exact h
theorem outH_A {α : Type} {es : IE} {r : Out α} {g : α → En → Out (List Slot)} {QL : List V → Hp → Prop} (h : GoodA K T cls W q es (r.bind g) e σ F H QL) : OutH K T cls W e σ F H r fun x e2 => GoodA K T cls W q es (g x e2) e σ F H QL := by
  cases r <;> exact h
theorem good_out {r : Out (D × Fl)} {X : D × Fl → En → Prop} (s : Step K T e σ F H e1 σ F1 H1) (h : OutH K T cls W e σ F H r X) :
    GoodE K T cls W q1 r e1 σ F1 H1 (fun v H2 => ∃ x e2 F2, r = .ok x e2 ∧ Step K T e1 σ F1 H1 e2 σ F2 H2 ∧ Res K e1 σ H1 e2 σ F2 H2 x v ∧ (q1 = true → Quiet H1 H2) ∧ X x e2) := by
  cases r with
  | ok x e2 => exact fun F2 H2 v s2 r2 q2 => ⟨x, e2, F2, rfl, s2, r2, q2, h⟩
  | exc c d e2 => exact fun F2 H2 dx v s2 => h F2 H2 dx v (s.trans s2)
  | stuck => exact h
theorem good_outB {r : Out Bool} {X : Bool → En → Prop} (s : Step K T e σ F H e1 σ F1 H1) (h : OutH K T cls W e σ F H r X) :
    GoodB K T cls W q1 r e1 σ F1 H1 (fun b H2 => ∃ e2 F2, r = .ok b e2 ∧ Step K T e1 σ F1 H1 e2 σ F2 H2 ∧ (q1 = true → Quiet H1 H2) ∧ X b e2) := by
  cases r with
  | ok x e2 => exact fun F2 H2 s2 q2 => ⟨e2, F2, rfl, s2, q2, h⟩
  | exc c d e2 => exact fun F2 H2 dx v s2 => h F2 H2 dx v (s.trans s2)
  | stuck => exact h
theorem good_outL {R : Hp → Hp → List V → List D → Prop} {r : Out (List D)} {X : List D → En → Prop} (s : Step K T e σ F H e1 σ F1 H1) (h : OutH K T cls W e σ F H r X) :
    GoodL K T cls W q1 R r e1 σ F1 H1 (fun vs H2 => ∃ ds e2 F2, r = .ok ds e2 ∧ Step K T e1 σ F1 H1 e2 σ F2 H2 ∧ R F2 H2 vs ds ∧ (q1 = true → Quiet H1 H2) ∧ X ds e2) := by
  cases r with
  | ok x e2 => exact fun F2 H2 vs s2 r2 q2 => ⟨x, e2, F2, rfl, s2, r2, q2, h⟩
  | exc c d e2 => exact fun F2 H2 dx v s2 => h F2 H2 dx v (s.trans s2)
  | stuck => exact h
theorem good_outA {es : IE} {r : Out (List Slot)} {X : List Slot → En → Prop} (s : Step K T e σ F H e1 σ F1 H1) (h : OutH K T cls W e σ F H r X) :
    GoodA K T cls W q1 es r e1 σ F1 H1 (fun vs H2 => ∃ ss e2 F2, r = .ok ss e2 ∧ Step K T e1 σ F1 H1 e2 σ F2 H2 ∧ ArgsOk K e2 σ F2 es ss vs ∧ (q1 = true → Quiet H1 H2) ∧ X ss e2) := by
  cases r with
  | ok x e2 => exact fun F2 H2 vs s2 r2 q2 => ⟨x, e2, F2, rfl, s2, r2, q2, h⟩
  | exc c d e2 => exact fun F2 H2 dx v s2 => h F2 H2 dx v (s.trans s2)
  | stuck => exact h
/-- a result is kept -/
theorem good_keep {r : Out (D × Fl)} {X : D → En → Prop} (s : Step K T e σ F H e1 σ F1 H1) (h : OutH K T cls W e σ F H (keepR r) X) :
    GoodE K T cls W q1 r e1 σ F1 H1 (fun v H2 => ∃ d e2 F2, keepR r = .ok d e2 ∧ Step K T e1 σ F1 H1 e2 σ F2 H2 ∧ Dp K F2 v d ∧ (q1 = true → Quiet H1 H2) ∧ X d e2) := by
  cases r with
  | stuck => exact h
  | exc c d e2 => exact fun F2 H2 dx v s2 => h F2 H2 dx v (s.trans s2)
  | ok x e2 =>
    obtain ⟨d, f⟩ := x
    cases f with
    | val => exact fun F2 H2 v s2 r2 q2 => ⟨d, e2, F2, rfl, s2, r2, q2, h⟩
    | xt => exact fun F2 H2 v s2 r2 q2 => ⟨d, e2, F2, rfl, s2, r2.1, q2, h⟩
    | x1 => exact fun F2 H2 v s2 r2 q2 => ⟨d, e2, F2, rfl, s2, r2.1, q2, h⟩
    | fr =>
      intro F2 H2 v s2 r2 q2
      obtain ⟨F3, s3, h3, _⟩ := r2.keep s2 rfl
      exact ⟨d, e2, F3, rfl, s3, h3, q2, h⟩
    | br i =>
      intro F2 H2 v s2 r2 q2
      have h : OutH K T cls W e σ F H (match e2[i]? with | some (.own xs) => Out.ok (.list xs) (e2.set i (.val (.list xs))) | _ => .stuck) X := h
      cases z : e2[i]? with
      | none => simp only [z] at h; exact h.elim
      | some sl =>
        cases sl with
        | own xs =>
          simp only [z] at h
          obtain ⟨F3, a, s3, h3, h4, _⟩ := s2.freeze z
          obtain ⟨ys, b, vs, _, rfl, _, _, h5⟩ := r2
          rw [h3] at h5
          cases h5
          exact ⟨.list xs, _, F3, by simp only [keepR, z], s3, h4, q2, h⟩
        | emp => simp only [z] at h; exact h.elim
        | val _ => simp only [z] at h; exact h.elim
        | valx _ => simp only [z] at h; exact h.elim
        | valy _ => simp only [z] at h; exact h.elim
        | io _ => simp only [z] at h; exact h.elim
/-- .. as an argument -/
theorem good_keepX {r : Out (D × Fl)} {X : Slot → En → Prop} (s : Step K T e σ F H e1 σ F1 H1) (h : OutH K T cls W e σ F H (keepX r) X) :
    GoodE K T cls W q1 r e1 σ F1 H1 (fun v H2 => ∃ t e2 F2, keepX r = .ok t e2 ∧ Step K T e1 σ F1 H1 e2 σ F2 H2 ∧ ((held t = none ∧ t ≠ .emp) ∧ ∀ G, SlotOk K F2 G t (some v)) ∧ (q1 = true → Quiet H1 H2) ∧ X t e2) := by
  have old : keepX r = (keepR r).bind (fun d e => Out.ok (.val d) e) → GoodE K T cls W q1 r e1 σ F1 H1 (fun v H2 => ∃ t e2 F2, keepX r = .ok t e2 ∧ Step K T e1 σ F1 H1 e2 σ F2 H2 ∧ ((held t = none ∧ t ≠ .emp) ∧ ∀ G, SlotOk K F2 G t (some v)) ∧ (q1 = true → Quiet H1 H2) ∧ X t e2) := fun eq => by
    rw [eq] at h
    refine good_imp (q1 := q1) (good_keep (X := fun d e2 => OutH K T cls W e σ F H (Out.ok (.val d) e2) X) s ?_) id ?_
    · cases k : keepR r <;> (rw [k] at h; exact h)
    · rintro v H2 ⟨d, e2, F2, hr, s2, r2, q2, h2⟩
      exact ⟨.val d, e2, F2, by rw [eq, hr], s2, ⟨⟨rfl, by intro z; cases z⟩, fun G => ⟨v, rfl, r2⟩⟩, q2, h2⟩
  cases r with
  | stuck => exact old rfl
  | exc c d e2 => exact old rfl
  | ok x e2 =>
    obtain ⟨d, f⟩ := x
    cases f with
    | val => exact old rfl
    | fr => exact old rfl
    | br i => exact old rfl
    | xt => exact fun F2 H2 v s2 r2 q2 => ⟨.valx d, e2, F2, rfl, s2, ⟨⟨rfl, by intro z; cases z⟩, fun G => ⟨v, rfl, r2⟩⟩, q2, h⟩
    | x1 => exact fun F2 H2 v s2 r2 q2 => ⟨.valy d, e2, F2, rfl, s2, ⟨⟨rfl, by intro z; cases z⟩, fun G => ⟨v, rfl, r2⟩⟩, q2, h⟩
end
section
variable {w : Nm}
theorem snd_ite {t a b : IE} (ht : Snd w t) (ha : Snd w a) (hb : Snd w b) : Snd w (.ite t a b) := by
  refine ⟨fun {T cls W Φ C n X} c x hx => ?_, fun {T cls W Φ C n X} c x hx hb2 => (Bool.false_ne_true hb2).elim⟩
  cases x <;> first | exact (Bool.false_ne_true hx).elim | skip
  rename_i tx ax bx p
  have hx : (chkE w X.N X.env.scope t tx && chkB t && chkE w X.N X.env.scope a ax && chkE w X.N X.env.scope b bx) = true := hx
  simp only [Bool.and_eq_true] at hx
  obtain ⟨⟨⟨h1, h2⟩, h3⟩, h4⟩ := hx
  refine ⟨fun pins s σ H Q I h => (pe_ifExp (pos := p) (ht.t c tx h1 h2) (ha.e c ax h3) (hb.e c bx h4)).run pins s σ H Q I ?_⟩
  obtain ⟨e, F, g, h⟩ := h
  unfold evalE at h
  refine ⟨e, F, g, good_impB (good_outB (q1 := pure t) (Step.refl g) (outH_E h)) ?_⟩
  rintro z H1 ⟨e1, F1, hr, s1, q1, h1⟩
  cases z with
  | true =>
    rw [if_pos rfl]
    refine ⟨e1, F1, s1.agr, good_imp (good_keep (q1 := pure a) s1 (outH_E h1)) id ?_⟩
    rintro v H2 ⟨d, e2, F2, hr2, s2, r2, q2, h2⟩
    refine h2 F2 H2 v (s1.trans s2) r2 fun q => ?_
    have q : (pure t && pure a && pure b) = true := q
    simp only [Bool.and_eq_true] at q
    exact (q1 q.1.1).trans (q2 q.1.2)
  | false =>
    rw [if_neg Bool.false_ne_true]
    refine ⟨e1, F1, s1.agr, good_imp (good_keep (q1 := pure b) s1 (outH_E h1)) id ?_⟩
    rintro v H2 ⟨d, e2, F2, hr2, s2, r2, q2, h2⟩
    refine h2 F2 H2 v (s1.trans s2) r2 fun q => ?_
    have q : (pure t && pure a && pure b) = true := q
    simp only [Bool.and_eq_true] at q
    exact (q1 q.1.1).trans (q2 q.2)
/-! ### several -/
theorem snds_nil : SndS w .nil := by
  refine ⟨fun {T cls W Φ C n X} c xs hx _ => ?_, fun {T cls W Φ C n X} c xs hx _ => ?_, fun {T cls W Φ C n X} c xs hx _ => ?_⟩
  all_goals
    cases xs with
    | cons x r => exact (Bool.false_ne_true hx).elim
    | nil => exact ⟨fun pos pins s σ H Q I h => pa_nil.run pos pins s σ H Q I (by
        obtain ⟨e, F, g, h⟩ := h
        exact h F H [] (Step.refl g) .nil fun _ => Quiet.refl H)⟩
theorem ArgsOk.mono {K : PySem.W.Frag} {T : List (Addr × Str)} {e e' : En} {σ : L2.St} {F F' : Hp} {es : IE} {ss : List Slot} {vs : List V} (h : ArgsOk K e σ F es ss vs) (ff : Same F F') (k : e' = e) : ArgsOk K e' σ F' es ss vs := by
  subst k
  induction h with
  | nil => exact .nil
  | val h1 h2 _ ih => exact .val ⟨h1.1, fun H => (h1.2 H).mono ff fun a xs z => by rw [h1.1.1] at z; cases z⟩ h2 ih
  | io h1 h2 h3 h4 _ ih => exact .io h1 h2 h3 h4 ih
theorem Tops.mono {K : PySem.W.Frag} {F F' H H' : Hp} {vs : List V} {ds : List D} (h : Tops K F H vs ds) : True := trivial
theorem isHeld_at {K : PySem.W.Frag} {T : List (Addr × Str)} {e : En} {σ : L2.St} {F H : Hp} {i : Nat} (g : Agr K T e σ F H) (h : isHeld e i = true) : ∃ a, σ[i]? = some (some (.ref a)) := by
  unfold isHeld at h
  split at h
  · rename_i xs q
    obtain ⟨a, _, h1, _⟩ := g.holds q rfl
    exact ⟨a, h1⟩
  · rename_i xs q
    obtain ⟨a, _, h1, _⟩ := g.holds q rfl
    exact ⟨a, h1⟩
  · cases h
theorem chkS_inv {w : Nm} {N : List Str} {sc : Scope} {a r : IE} {xs : List Expr} (h : chkS w N sc (.cons a r) xs = true) (na : ∀ i, a ≠ .ioarg i) : ∃ x t, xs = x :: t ∧ chkE w N sc a x = true ∧ chkS w N sc r t = true := by
  cases xs with
  | nil => exact (Bool.false_ne_true h).elim
  | cons x t =>
    refine ⟨x, t, rfl, ?_⟩
    cases a <;> first | exact absurd rfl (na _) | exact Bool.and_eq_true_iff.mp h
theorem snds_cons {a r : IE} (ha : Snd w a) (hr : SndS w r) (na : ∀ i, a ≠ .ioarg i) : SndS w (.cons a r) := by
  refine ⟨fun {T cls W Φ C n X} c xs hx hp => ?_, fun {T cls W Φ C n X} c xs hx hp => ?_, fun {T cls W Φ C n X} c xs hx hp => ?_⟩
  · obtain ⟨x, t, rfl, h1, h2⟩ := chkS_inv hx na
    rw [List.all_cons, Bool.and_eq_true] at hp
    refine ⟨fun pos pins s σ H Q I h => (pa_cons (ha.e c x h1) (hr.k c t h2 hp.2) (star_cons hp.1)).run pos pins s σ H Q I ?_⟩
    obtain ⟨e, F, g, h⟩ := h
    have h : GoodL X.K T cls W (pure a && pure r) (fun F' _ vs ds => DpAll X.K F' vs ds) ((keepR (evalE Φ C a .v e)).bind fun d e1 => (evalK Φ C r e1).bind fun ds e2 => .ok (d :: ds) e2) e σ F H Q := h
    refine ⟨e, F, g, good_imp (good_keep (q1 := pure a) (Step.refl g) (outH_L h)) id ?_⟩
    rintro v H1 ⟨d, e1, F1, hr1, s1, r1, q1, h1⟩
    refine ⟨e1, F1, s1.agr, good_impL (good_outL (q1 := pure r) s1 (outH_L h1)) ?_⟩
    rintro vs H2 ⟨ds, e2, F2, hr2, s2, r2, q2, h2⟩
    refine h2 F2 H2 (v :: vs) (s1.trans s2) (.cons (Dp.mono s2.ff r1) r2) fun q => ?_
    obtain ⟨z1, z2⟩ := Bool.and_eq_true_iff.mp q
    exact (q1 z1).trans (q2 z2)
  · obtain ⟨x, t, rfl, h1, h2⟩ := chkS_inv hx na
    rw [List.all_cons, Bool.and_eq_true] at hp
    refine ⟨fun pos pins s σ H Q I h => (pa_cons (ha.e c x h1) (hr.b c t h2 hp.2) (star_cons hp.1)).run pos pins s σ H Q I ?_⟩
    obtain ⟨e, F, g, h⟩ := h
    have h : GoodL X.K T cls W (pure a && pure r) (Tops X.K) ((evalE Φ C a .v e).bind fun x e1 => match okTwo x r with | true => (evalB Φ C r e1).bind fun ds e2 => .ok (x.1 :: ds) e2 | false => .stuck) e σ F H Q := h
    refine ⟨e, F, g, good_imp (good_out (q1 := pure a) (Step.refl g) (outH_L h)) id ?_⟩
    rintro v H1 ⟨d, e1, F1, hr1, s1, r1, q1, h1⟩
    cases ok : okTwo d r with
    | false => simp only [ok] at h1; exact h1.elim
    | true =>
      simp only [ok] at h1
      refine ⟨e1, F1, s1.agr, good_impL (good_outL (q1 := pure r) s1 (outH_L h1)) ?_⟩
      rintro vs H2 ⟨ds, e2, F2, hr2, s2, r2, q2, h2⟩
      refine h2 F2 H2 (v :: vs) (s1.trans s2) (.cons (r1.step s2 rfl (okTwo_q ok q2)).top r2) fun q => ?_
      obtain ⟨z1, z2⟩ := Bool.and_eq_true_iff.mp q
      exact (q1 z1).trans (q2 z2)
  · obtain ⟨x, t, rfl, h1, h2⟩ := chkS_inv hx na
    rw [List.all_cons, Bool.and_eq_true] at hp
    refine ⟨fun pos pins s σ H Q I h => (pa_cons (ha.e c x h1) (hr.a c t h2 hp.2) (star_cons hp.1)).run pos pins s σ H Q I ?_⟩
    obtain ⟨e, F, g, h⟩ := h
    have h : GoodA X.K T cls W (pure a && pure r) (.cons a r) ((keepX (evalE Φ C a .v e)).bind fun s e1 => (evalA Φ C r e1).bind fun ss e2 => .ok (s :: ss) e2) e σ F H Q := by
      cases a <;> first | exact absurd rfl (na _) | exact h
    refine ⟨e, F, g, good_imp (good_keepX (q1 := pure a) (Step.refl g) (outH_A h)) id ?_⟩
    rintro v H1 ⟨s1, e1, F1, hr1, st1, r1, q1, h1⟩
    refine ⟨e1, F1, st1.agr, good_impA (good_outA (q1 := pure r) st1 (outH_A h1)) ?_⟩
    rintro vs H2 ⟨ss, e2, F2, hr2, st2, r2, q2, h2⟩
    refine h2 F2 H2 (v :: vs) (st1.trans st2) (.val ⟨r1.1, fun G => (r1.2 G).mono st2.ff fun a xs z => by rw [r1.1.1] at z; cases z⟩ na r2) fun q => ?_
    obtain ⟨z1, z2⟩ := Bool.and_eq_true_iff.mp q
    exact (q1 z1).trans (q2 z2)
theorem snds_io {r : IE} (i : Nat) (hr : SndS w r) : SndS w (.cons (.ioarg i) r) := by
  refine ⟨fun {T cls W Φ C n X} c xs hx hp => ?_, fun {T cls W Φ C n X} c xs hx hp => ?_, fun {T cls W Φ C n X} c xs hx hp => ?_⟩
  · exact ⟨fun pos pins s σ H Q I h => by obtain ⟨e, F, g, h⟩ := h; exact (show False from h).elim⟩
  · exact ⟨fun pos pins s σ H Q I h => by obtain ⟨e, F, g, h⟩ := h; exact (show False from h).elim⟩
  · cases xs with
    | nil => exact (Bool.false_ne_true hx).elim
    | cons x t =>
      cases x <;> first | exact (Bool.false_ne_true hx).elim | skip
      rename_i y p
      have hx : ((decide (X.N[i]? = some y) && visB X.env.scope y && !(y == ("__debug__" : Str)) && !(y == ("__classdict__" : Str))) && chkS w X.N X.env.scope r t) = true := hx
      simp only [Bool.and_eq_true, decide_eq_true_eq, Bool.not_eq_true'] at hx
      obtain ⟨⟨⟨⟨h1, h2⟩, h3⟩, h4⟩, h5⟩ := hx
      rw [List.all_cons, Bool.and_eq_true] at hp
      refine ⟨fun pos pins s σ H Q I h => (pa_cons (pe_var (pos := p) h1 (visB_ok h2) h3 h4) (hr.a c t h5 hp.2) (star_cons hp.1)).run pos pins s σ H Q I ?_⟩
      obtain ⟨e, F, g, h⟩ := h
      have h : GoodA X.K T cls W false (.cons (.ioarg i) r) (match isHeld e i with
        | true => (evalA Φ C r e).bind fun ss e1 => (match e1[i]?, ioIn i r with
          | some (.own xs), false => .ok (.io xs :: ss) e1
          | some (.io xs), false => .ok (.io xs :: ss) e1
          | _, _ => .stuck)
        | false => .stuck) e σ F H Q := h
      cases hh : isHeld e i with
      | false => simp only [hh] at h; exact h.elim
      | true =>
        simp only [hh] at h
        obtain ⟨a, ha⟩ := isHeld_at g hh
        refine ⟨.ref a, ha, e, F, g, good_impA (good_outA (q1 := pure r) (Step.refl g) (outH_A h)) ?_⟩
        rintro vs H2 ⟨ss, e2, F2, hr2, s2, r2, q2, h2⟩
        cases io : ioIn i r with
        | true =>
          cases z : e2[i]? with
          | none => simp only [io, z] at h2; exact h2.elim
          | some sl => cases sl <;> (simp only [io, z] at h2; exact h2.elim)
        | false =>
          simp only [io] at h2
          cases z : e2[i]? with
          | none => simp only [z] at h2; exact h2.elim
          | some sl =>
            cases sl with
            | emp => simp only [z] at h2; exact h2.elim
            | val _ => simp only [z] at h2; exact h2.elim
            | valx _ => simp only [z] at h2; exact h2.elim
            | valy _ => simp only [z] at h2; exact h2.elim
            | own ys =>
              simp only [z] at h2
              exact h2 F2 H2 _ s2 (.io z rfl ha io r2) fun q => (Bool.false_ne_true q).elim
            | io ys =>
              simp only [z] at h2
              exact h2 F2 H2 _ s2 (.io z rfl ha io r2) fun q => (Bool.false_ne_true q).elim
end
end TI

set_option Elab.async false
set_option autoImplicit false
set_option maxRecDepth 100000
set_option maxHeartbeats 4000000
set_option linter.all false
/-! TI8: a call: lists are lent, and come back. -/
namespace TI
open PySem PySem.Spec PyProof.Rows L2
section
variable {K : PySem.W.Frag} {T : List (Addr × Str)} {e e1 e2 e3 : En} {σ : L2.St} {F F' H H' : Hp} {es : IE} {ss : List Slot} {vs : List V} {v : V}
theorem ArgsOk.length (h : ArgsOk K e σ F es ss vs) : ss.length = vs.length := by
  induction h with
  | nil => rfl
  | val _ _ _ ih => simp [ih]
  | io _ _ _ _ _ ih => simp [ih]
/-- a lent list is a name's -/
theorem ArgsOk.lent (h : ArgsOk K e σ F es ss vs) : ∀ {k : Nat} {xs : List D} {s : Slot}, ss[k]? = some s → held s = some xs → ∃ i t a, ioIn i es = true ∧ e[i]? = some t ∧ held t = some xs ∧ σ[i]? = some (some (.ref a)) ∧ vs[k]? = some (.ref a) := by
  induction h with
  | nil => intro k xs s h1; simp at h1
  | @val h0 t0 s9 v ss vs h1 h2 h3 ih =>
    intro k xs s q1 q2
    cases k with
    | zero =>
      simp at q1
      subst q1
      rw [h1.1.1] at q2
      cases q2
    | succ k =>
      obtain ⟨i, t, a, z1, z2⟩ := ih (k := k) (by simpa using q1) q2
      refine ⟨i, t, a, ?_, by simpa using z2⟩
      cases h0 <;> first | exact absurd rfl (h2 _) | exact z1
  | @io t0 i0 s0 xs0 a0 ss vs h1 h2 h3 h4 h5 ih =>
    intro k xs s q1 q2
    cases k with
    | zero =>
      simp at q1
      subst q1
      cases q2
      exact ⟨i0, s0, a0, by simp [ioIn], h1, h2, h3, by simp⟩
    | succ k =>
      obtain ⟨i, t, a, z1, z2⟩ := ih (k := k) (by simpa using q1) q2
      exact ⟨i, t, a, by simp [ioIn, z1], by simpa using z2⟩
/-- .. no list twice -/
theorem ArgsOk.apart (g : Agr K T e σ F H) (h : ArgsOk K e σ F es ss vs) : ∀ {j k : Nat} {s t : Slot} {xs ys : List D}, ss[j]? = some s → ss[k]? = some t → held s = some xs → held t = some ys → j ≠ k → vs[j]? ≠ vs[k]? := by
  induction h with
  | nil => intro j k s t xs ys h1; simp at h1
  | @val h0 t0 s9 v ss vs h1 h2 h3 ih =>
    intro j k s t xs ys q1 q2 q3 q4 ne
    cases j with
    | zero => simp at q1; subst q1; rw [h1.1.1] at q3; cases q3
    | succ j =>
      cases k with
      | zero => simp at q2; subst q2; rw [h1.1.1] at q4; cases q4
      | succ k => simpa using ih (j := j) (k := k) (by simpa using q1) (by simpa using q2) q3 q4 (by omega)
  | @io t0 i0 s0 xs0 a0 ss vs h1 h2 h3 h4 h5 ih =>
    intro j k s t xs ys q1 q2 q3 q4 ne
    have one : ∀ {k : Nat} {t : Slot} {ys : List D}, ss[k]? = some t → held t = some ys → some (V.ref a0) ≠ vs[k]? := fun {k t ys} p1 p2 z => by
      obtain ⟨i, u, a, z1, z2, z3, z4, z5⟩ := h5.lent p1 p2
      rw [← z] at z5
      cases z5
      have ni : i0 ≠ i := fun w => by
        subst w
        rw [h4] at z1
        cases z1
      exact g.dis i0 i s0 u xs0 ys h1 z2 h2 z3 ni (h3.trans z4.symm)
    cases j with
    | zero =>
      cases k with
      | zero => exact absurd rfl ne
      | succ k => simpa using one (k := k) (by simpa using q2) q4
    | succ j =>
      cases k with
      | zero => simpa using (one (k := j) (by simpa using q1) q3).symm
      | succ k => simpa using ih (j := j) (k := k) (by simpa using q1) (by simpa using q2) q3 q4 (by omega)
theorem getmap {l : List V} {i : Nat} {a : V} (h : (l.map some)[i]? = some (some a)) : l[i]? = some a := by
  rw [List.getElem?_map] at h
  cases q : l[i]? with
  | none => rw [q] at h; cases h
  | some b => rw [q] at h; cases h; rfl
/-- the callee's slots at its entry -/
theorem ArgsOk.agr (g : Agr K T e σ F H) (h : ArgsOk K e σ F es ss vs) : Agr K T ss (vs.map some) F H := by
  refine ⟨by rw [List.length_map]; exact h.length, fun k s q => ?_, fun j k s t xs ys q1 q2 q3 q4 ne z => ?_, g.sub, g.noT, g.tab⟩
  · have lk : k < vs.length := by rw [← h.length]; exact (List.getElem?_eq_some_iff.mp q).1
    obtain ⟨v0, hv⟩ : ∃ v0, vs[k]? = some v0 := ⟨_, List.getElem?_eq_getElem lk⟩
    refine ⟨some v0, by rw [List.getElem?_map, hv]; rfl, ?_⟩
    have flatS : held s = none → SlotOk K F H s (some v0) := fun nh => by
      clear lk
      induction h generalizing k with
      | nil => simp at q
      | @val h0 t0 s9 v ss vs h1 h2 h3 ih =>
        cases k with
        | zero => simp at q hv; subst q hv; exact h1.2 H
        | succ k => exact ih k (by simpa using q) (by simpa using hv)
      | @io t0 i0 s0 xs0 a0 ss vs h1 h2 h3 h4 h5 ih =>
        cases k with
        | zero => simp at q; subst q; cases nh
        | succ k => exact ih k (by simpa using q) (by simpa using hv)
    cases s with
    | emp => trivial
    | val d => exact flatS rfl
    | valx d => exact flatS rfl
    | valy d => exact flatS rfl
    | own xs =>
      obtain ⟨i, t, a, z1, z2, z3, z4, z5⟩ := h.lent q rfl
      obtain ⟨b, us, w1, w2, w3, w4⟩ := g.holds z2 z3
      rw [z4] at w1
      cases w1
      rw [hv] at z5
      cases z5
      exact ⟨a, us, rfl, w2, w3, w4⟩
    | io xs =>
      obtain ⟨i, t, a, z1, z2, z3, z4, z5⟩ := h.lent q rfl
      obtain ⟨b, us, w1, w2, w3, w4⟩ := g.holds z2 z3
      rw [z4] at w1
      cases w1
      rw [hv] at z5
      cases z5
      exact ⟨a, us, rfl, w2, w3, w4⟩
  · rw [List.getElem?_map, List.getElem?_map] at z
    have := h.apart g q1 q2 q3 q4 ne
    obtain ⟨i, u, a, _, _, _, _, z5⟩ := h.lent q1 q3
    obtain ⟨i', u', a', _, _, _, _, z5'⟩ := h.lent q2 q4
    rw [z5, z5'] at z this
    simp at z
    subst z
    exact this rfl
theorem ArgsOk.own (h : ArgsOk K e σ F es ss vs) {a : Addr} (o : Own ss (vs.map some) a) : ∃ i t xs, ioIn i es = true ∧ e[i]? = some t ∧ held t = some xs ∧ σ[i]? = some (some (.ref a)) := by
  obtain ⟨k, s, xs, h1, h2, h3⟩ := o
  obtain ⟨i, t, b, z1, z2, z3, z4, z5⟩ := h.lent h1 h2
  have := getmap h3
  rw [z5] at this
  cases this
  exact ⟨i, t, xs, z1, z2, z3, z4⟩
def sameKind : Slot → Slot → Prop
  | .own _, .own _ => True
  | .io _, .io _ => True
  | _, _ => False
/-- what stands in the caller's slots behind the call -/
theorem back_at (h : ArgsOk K e1 σ F es ss vs) : ∀ {e2 e e3 : En}, backIo es e2 e = some e3 → e3.length = e.length ∧ ∀ (i : Nat) (sl : Slot), e3[i]? = some sl →
    (ioIn i es = false ∧ e[i]? = some sl) ∨ (ioIn i es = true ∧ ∃ (k : Nat) (ys : List D) (s1 : Slot) (a : Addr), e[i]? = some s1 ∧ sameKind s1 sl ∧ held sl = some ys ∧ e2[k]? = some (.io ys) ∧ vs[k]? = some (.ref a) ∧ σ[i]? = some (some (.ref a))) := by
  induction h with
  | nil =>
    intro e2 e e3 h
    cases h
    exact ⟨rfl, fun i sl q => .inl ⟨rfl, q⟩⟩
  | @val h0 t0 s9 v ss vs h1 h2 h3 ih =>
    intro e2 e e3 h
    cases e2 with
    | nil => cases h0 <;> first | exact absurd rfl (h2 _) | (cases h)
    | cons s r =>
      have h : backIo t0 r e = some e3 := by cases h0 <;> first | exact absurd rfl (h2 _) | exact h
      have e0 : ∀ i, ioIn i (.cons h0 t0) = ioIn i t0 := fun i => by cases h0 <;> first | exact absurd rfl (h2 _) | rfl
      obtain ⟨l, k⟩ := ih h
      refine ⟨l, fun i sl q => ?_⟩
      rw [e0]
      rcases k i sl q with z | ⟨z1, k, ys, s1, a, z2⟩
      · exact .inl z
      · exact .inr ⟨z1, k + 1, ys, s1, a, by simpa using z2⟩
  | @io t0 i0 s0 xs0 a0 ss vs h1 h2 h3 h4 h5 ih =>
    intro e2 e e3 h
    cases e2 with
    | nil => cases h
    | cons s r =>
      cases s with
      | emp => cases h
      | val _ => cases h
      | valx _ => cases h
      | valy _ => cases h
      | own _ => cases h
      | io ys =>
        have h : (match e[i0]? with | some (.own _) => backIo t0 r (e.set i0 (.own ys)) | some (.io _) => backIo t0 r (e.set i0 (.io ys)) | _ => none) = some e3 := by
          cases z : e[i0]? with
          | none => simp only [backIo, z] at h; cases h
          | some sl => cases sl <;> (simp only [backIo, z] at h ⊢; exact h)
        have fin : ∀ {s1 s2 : Slot}, e[i0]? = some s1 → sameKind s1 s2 → held s2 = some ys → backIo t0 r (e.set i0 s2) = some e3 → e3.length = e.length ∧ ∀ (i : Nat) (sl : Slot), e3[i]? = some sl →
            (ioIn i (.cons (.ioarg i0) t0) = false ∧ e[i]? = some sl) ∨ (ioIn i (.cons (.ioarg i0) t0) = true ∧ ∃ (k : Nat) (ys' : List D) (s1 : Slot) (a : Addr), e[i]? = some s1 ∧ sameKind s1 sl ∧ held sl = some ys' ∧ (Slot.io ys :: r)[k]? = some (.io ys') ∧ (V.ref a0 :: vs)[k]? = some (.ref a) ∧ σ[i]? = some (some (.ref a))) := by
          intro s1 s2 p1 p2 p3 hb
          obtain ⟨l, k⟩ := ih hb
          refine ⟨by rw [l, List.length_set], fun i sl q => ?_⟩
          rcases k i sl q with ⟨z1, z2⟩ | ⟨z1, k, ys', s3, a, z2, z3, z4, z5, z6, z7⟩
          · rcases get_set z2 with ⟨rfl, rfl⟩ | ⟨ne, z2⟩
            · exact .inr ⟨by simp [ioIn], 0, ys, s1, a0, p1, p2, p3, by simp, by simp, h3⟩
            · exact .inl ⟨by simp [ioIn, z1, ne], z2⟩
          · have ne : i ≠ i0 := fun w => by subst w; rw [h4] at z1; cases z1
            rw [List.getElem?_set_ne (fun w => ne w.symm)] at z2
            exact .inr ⟨by simp [ioIn, z1], k + 1, ys', s3, a, z2, z3, z4, by simpa using z5, by simpa using z6, z7⟩
        cases z : e[i0]? with
        | none => simp only [z] at h; cases h
        | some sl =>
          cases sl with
          | emp => simp only [z] at h; cases h
          | val _ => simp only [z] at h; cases h
          | valx _ => simp only [z] at h; cases h
          | valy _ => simp only [z] at h; cases h
          | own us => simp only [z] at h; exact fin (s2 := .own ys) z trivial rfl h
          | io us => simp only [z] at h; exact fin (s2 := .io ys) z trivial rfl h
theorem back_was (h : ArgsOk K e1 σ F es ss vs) (hb : backIo es e2 e1 = some e3) (i : Nat) (sl : Slot) (ys : List D) (q1 : e3[i]? = some sl) (q2 : held sl = some ys) : ∃ s1 xs, e1[i]? = some s1 ∧ held s1 = some xs := by
  rcases (back_at h hb).2 i sl q1 with ⟨_, z⟩ | ⟨_, k, zs, s1, a, z1, z2, _⟩
  · exact ⟨sl, ys, z, q2⟩
  · cases s1 <;> cases sl <;> first | exact z2.elim | exact ⟨_, _, z1, rfl⟩
theorem back_own (h : ArgsOk K e1 σ F es ss vs) (hb : backIo es e2 e1 = some e3) {a : Addr} (o : Own e3 σ a) : Own e1 σ a := by
  obtain ⟨i, sl, ys, q1, q2, q3⟩ := o
  obtain ⟨s1, xs, z1, z2⟩ := back_was h hb i sl ys q1 q2
  exact ⟨i, s1, xs, z1, z2, q3⟩
theorem back_step (g : Agr K T e1 σ F H) (h : ArgsOk K e1 σ F es ss vs) (s : Step K T ss (vs.map some) F H e2 (vs.map some) F' H') (hb : backIo es e2 e1 = some e3) : Step K T e1 σ F H e3 σ F' H' := by
  obtain ⟨ln, at_⟩ := back_at h hb
  have up : ∀ a, Own ss (vs.map some) a → Own e1 σ a := fun a o => by
    obtain ⟨i, t, xs, _, h1, h2, h3⟩ := h.own o
    exact ⟨i, t, xs, h1, h2, h3⟩
  have was := back_was h hb
  refine ⟨s.ff, fun a o q n => s.keep a o q fun z => n (up a z), fun a o q f n => s.out a o q f fun z => n (up a z), fun a ⟨i, sl, ys, q1, q2, q3⟩ => ?_, ⟨ln.trans g.len, fun i sl q => ?_, fun i j sl tl xs ys q1 q2 q3 q4 ne => ?_, s.agr.sub, s.agr.noT, s.agr.tab⟩, fun i xs q => ?_, s.there⟩
  · obtain ⟨s1, xs, z1, z2⟩ := was i sl ys q1 q2
    exact .inl ⟨i, s1, xs, z1, z2, q3⟩
  · rcases at_ i sl q with ⟨z0, z⟩ | ⟨_, k, zs, s1, a, z1, z2, z3, z4, z5, z6⟩
    · obtain ⟨o, h1, h2⟩ := g.slots i sl z
      refine ⟨o, h1, h2.mono s.ff fun a xs hy eo => ?_⟩
      subst eo
      obtain ⟨b, us, w1, w2, w3, _⟩ := g.holds z hy
      rw [h1] at w1
      cases w1
      have no : ¬ Own ss (vs.map some) a := fun oo => by
        obtain ⟨j, t, xs', y1, y2, y3, y4⟩ := h.own oo
        have ne : i ≠ j := fun w => by subst w; rw [z0] at y1; cases y1
        exact g.dis i j sl t xs xs' z y2 hy y3 ne (h1.trans y4.symm)
      exact ⟨by rw [w3]; exact s.keep a _ w3 no (by intro ps w; cases w), s.out a _ w3 w2 no⟩
    · obtain ⟨o, h1, h2⟩ := s.agr.slots k _ z4
      have h1 : (vs.map some)[k]? = some o := h1
      rw [List.getElem?_map, z5] at h1
      cases h1
      obtain ⟨b, us, w1, w2⟩ := h2
      cases w1
      refine ⟨_, z6, ?_⟩
      cases sl with
      | emp => cases z3
      | val _ => cases z3
      | valx _ => cases z3
      | valy _ => cases z3
      | own xs => cases z3; exact ⟨a, us, rfl, w2⟩
      | io xs => cases z3; exact ⟨a, us, rfl, w2⟩
  · obtain ⟨s1, xs1, z1, z2⟩ := was i sl xs q1 q3
    obtain ⟨s2, xs2, z3, z4⟩ := was j tl ys q2 q4
    exact g.dis i j s1 s2 xs1 xs2 z1 z3 z2 z4 ne
  · have li : i < e3.length := by rw [ln]; exact (List.getElem?_eq_some_iff.mp q).1
    obtain ⟨sl, q3⟩ : ∃ sl, e3[i]? = some sl := ⟨_, List.getElem?_eq_getElem li⟩
    refine ⟨?_, rfl⟩
    rcases at_ i sl q3 with ⟨_, z⟩ | ⟨_, k, zs, s1, a, z1, z2, _⟩
    · rw [q] at z
      cases z
      exact ⟨xs, q3⟩
    · rw [q] at z1
      cases z1
      cases sl with
      | io ws => exact ⟨ws, q3⟩
      | emp => exact z2.elim
      | val _ => exact z2.elim
      | valx _ => exact z2.elim
      | valy _ => exact z2.elim
      | own _ => exact z2.elim
theorem back_res (g : Agr K T e1 σ F H) (h : ArgsOk K e1 σ F es ss vs) (s : Step K T ss (vs.map some) F H e2 (vs.map some) F' H') (hb : backIo es e2 e1 = some e3) {x : D × Fl} (r : Res K ss (vs.map some) H e2 (vs.map some) F' H' x v) (nb : x.2.isBr = false)
    (ios : ∀ (k : Nat) (sl : Slot) (xs : List D), ss[k]? = some sl → held sl = some xs → sl = .io xs) : Res K e1 σ H e3 σ F' H' x v := by
  obtain ⟨d, f⟩ := x
  cases f with
  | br i => cases nb
  | val => exact r
  | xt => exact r
  | x1 => exact r
  | fr =>
    obtain ⟨xs, a, us, h1, h2, h3, h4, h5, h6, h7⟩ := r
    have ha : H a = none := by
      rcases h7 with z | ⟨k, sl, ys, q1, q2, q3⟩
      · exact z
      · have e0 := ios k sl ys q1 q2
        subst e0
        obtain ⟨⟨zs, q4⟩, _⟩ := s.io k ys q1
        exact absurd ⟨k, _, zs, q4, rfl, q3⟩ h6
    refine ⟨xs, a, us, h1, h2, h3, h4, h5, fun z => ?_, .inl ha⟩
    obtain ⟨_, ws, w⟩ := g.own_at (back_own h hb z)
    rw [ha] at w
    cases w
theorem pure_io : ∀ {es : IE}, pure es = true → hasIo es = false
  | .cons a r, h => by
    have h : (pure a && pure r) = true := h
    obtain ⟨h1, h2⟩ := Bool.and_eq_true_iff.mp h
    have := pure_io h2
    cases a <;> first | exact (Bool.false_ne_true h1).elim | exact this
  | .nil, _ => rfl
  | .var _, _ | .glob _, _ | .lit _, _ | .ioarg _, _ | .bin _ _ _, _ | .neg _, _ | .andE _ _, _ | .orE _ _, _ | .notE _, _ | .ite _ _ _, _ | .cmp _ _ _, _ | .chain _ _ _ _ _, _ |   .tup _, _ | .lst _, _ | .tmul _ _, _ | .ix _ _, _ | .slice _ _ _, _ | .rev _, _
  | .call _ _, _ | .bi _ _, _ | .mt _ _ _, _ | .pop _, _ | .popAt _ _, _ | .isi _ _, _ | .comp _ _ _ _ _, _ | .range1 _, _ | .range2 _ _, _ | .enumr _, _ | .zipp _ _, _ | .told _ _, _ | .tup1 _ _, _ | .ix1 _, _ | .tupx _, _ => rfl
theorem io_in : ∀ {es : IE} {i : Nat}, hasIo es = false → ioIn i es = false
  | .cons a r, i, h => by
    cases a <;> first | (cases h; done) | exact io_in (es := r) h
  | .nil, _, _ => rfl
  | .var _, _, _ | .glob _, _, _ | .lit _, _, _ | .ioarg _, _, _ | .bin _ _ _, _, _ | .neg _, _, _ | .andE _ _, _, _ | .orE _ _, _, _ | .notE _, _, _ | .ite _ _ _, _, _ | .cmp _ _ _, _, _ | .chain _ _ _ _ _, _, _ |   .tup _, _, _ | .lst _, _, _ | .tmul _ _, _, _ | .ix _ _, _, _ | .slice _ _ _, _, _ | .rev _, _, _
  | .call _ _, _, _ | .bi _ _, _, _ | .mt _ _ _, _, _ | .pop _, _, _ | .popAt _ _, _, _ | .isi _ _, _, _ | .comp _ _ _ _ _, _, _ | .range1 _, _, _ | .range2 _ _, _, _ | .enumr _, _, _ | .zipp _ _, _, _ | .told _ _, _, _ | .tup1 _ _, _, _ | .ix1 _, _, _ | .tupx _, _, _ => rfl
theorem back_none (h : ArgsOk K e1 σ F es ss vs) (n : hasIo es = false) : ∀ {e2 : En}, e2.length = ss.length → ∀ e, backIo es e2 e = some e := by
  induction h with
  | nil => intro e2 _ e; rfl
  | @val h0 t0 s9 v ss vs h1 h2 h3 ih =>
    intro e2 l e
    cases e2 with
    | nil => simp at l
    | cons s r =>
      have n' : hasIo t0 = false := by cases h0 <;> first | exact absurd rfl (h2 _) | exact n
      have := ih n' (e2 := r) (by simpa using l) e
      cases h0 <;> first | exact absurd rfl (h2 _) | exact this
  | io => cases n
end
section
variable {w : Nm}
theorem argsOk_io {K : PySem.W.Frag} {e : En} {σ : L2.St} {F : Hp} {es : IE} {ss : List Slot} {vs : List V} (h : ArgsOk K e σ F es ss vs) : ∀ (k : Nat) (sl : Slot) (xs : List D), ss[k]? = some sl → held sl = some xs → sl = .io xs := by
  induction h with
  | nil => intro k sl xs q; simp at q
  | val h1 _ _ ih =>
    intro k sl xs q1 q2
    cases k with
    | zero => simp at q1; subst q1; rw [h1.1.1] at q2; cases q2
    | succ k => exact ih k sl xs (by simpa using q1) q2
  | io _ _ _ _ _ ih =>
    intro k sl xs q1 q2
    cases k with
    | zero => simp at q1; subst q1; cases q2; rfl
    | succ k => exact ih k sl xs (by simpa using q1) q2
theorem snd_call (f : Nat) {es : IE} (hs : SndS w es) : Snd w (.call f es) := by
  have E : ∀ {T : List (Addr × Str)} {cls : Nat → Addr} {W : WX} {Φ : Fun} {C : List D} {n : Nat} {X : Cx} (c : Ctx w T cls W Φ C n X) (x : Expr), chkE w X.N X.env.scope (.call f es) x = true → PE X x (tE X.K T cls W Φ C .v (.call f es)) ∧ testX x = true := by
    intro T cls W Φ C n X c x hx
    cases x <;> first | exact (Bool.false_ne_true hx).elim | skip
    rename_i g xs ks p
    cases g <;> first | exact (Bool.false_ne_true hx).elim | skip
    cases ks <;> first | exact (Bool.false_ne_true hx).elim | skip
    rename_i x px
    have hx : (decide (w.fn[f]? = some x) && glB X.env.scope x && chkS w X.N X.env.scope es xs && xs.all plainX && !xs.isEmpty) = true := hx
    simp only [Bool.and_eq_true, decide_eq_true_eq] at hx
    obtain ⟨⟨⟨⟨h1, h2⟩, h3⟩, h4⟩, h5⟩ := hx
    cases xs with
    | nil => cases h5
    | cons x0 xr =>
      obtain ⟨g1, g2⟩ := glB_ok h2
      obtain ⟨fa, fd, ps, m1, m2, m3, m4, m5⟩ := c.fns f x h1
      have h4' := h4
      rw [List.all_cons, Bool.and_eq_true] at h4'
      have P := pe_callS (pos := p) (p := px) (E := WE W) m4 c.room g1 m1 m2 m3 (fun σ => L2N.passAt c.tk σ) (hs.a c (x0 :: xr) h3 h4) g2 (star_cons h4'.1) (back_plain h4'.2)
      refine ⟨⟨fun pins s σ H Q I h => P.run pins s σ H Q I ?_⟩, rfl⟩
      obtain ⟨e, F, g, h⟩ := h
      unfold evalE at h
      refine ⟨e, F, g, good_impA (good_outA (q1 := pure es) (Step.refl g) (outH_E h)) ?_⟩
      rintro vs H1 ⟨ss, e1, F1, hr, s1, r1, q1, h1⟩
      cases r : Φ f ss with
      | stuck => simp only [r] at h1; exact h1.elim
      | ok x e2 =>
        simp only [r] at h1
        have ls := m5 ss (by rw [r]; intro z; cases z)
        refine ⟨ss, F1, r1.length.symm.trans ls, r1.agr s1.agr, ?_⟩
        rw [r]
        intro F2 H2 v s2 r2
        cases hb : backIo es e2 e1 with
        | none => simp only [hb] at h1; exact h1.elim
        | some e3 =>
          cases nb : x.2.isBr with
          | true => simp only [hb, nb] at h1; exact h1.elim
          | false =>
            simp only [hb, nb] at h1
            have s3 := back_step s1.agr r1 s2 hb
            refine h1 F2 H2 v (s1.trans s3) (res_cur s1 (back_res s1.agr r1 s2 hb r2 nb (argsOk_io r1))) fun q => ?_
            refine (q1 q).trans fun a o z nt => s2.keep a o z (fun oo => ?_) nt
            obtain ⟨i, t, ys, z1, _⟩ := r1.own oo
            have q : pure es = true := q
            rw [io_in (pure_io q)] at z1
            cases z1
      | exc cc d e2 =>
        simp only [r] at h1
        have ls := m5 ss (by rw [r]; intro z; cases z)
        refine ⟨ss, F1, r1.length.symm.trans ls, r1.agr s1.agr, ?_⟩
        rw [r]
        intro F2 H2 dx v s2 z1 z2
        cases hio : hasIo es with
        | true => simp only [hio] at h1; exact h1.elim
        | false =>
          simp only [hio] at h1
          have s3 := back_step s1.agr r1 s2 (back_none r1 hio (by rw [s2.agr.len, List.length_map, r1.length]) e1)
          exact h1 F2 H2 dx v (s1.trans s3) z1 z2
  exact ⟨fun c x hx => (E c x hx).1, fun c x hx _ => pt_gen (E c x hx).1 (E c x hx).2 fun _ => rfl⟩
end
end TI

set_option Elab.async false
set_option autoImplicit false
set_option maxRecDepth 100000
set_option maxHeartbeats 4000000
set_option linter.all false
/-! TI9: built-ins on read values. -/
namespace TI
open PySem PySem.Spec PyProof.Rows L2
/-- the heap as it was, or with one more object -/
def Wid (H H0 : Hp) : Prop := H0 = H ∨ ∃ q o, H q = none ∧ H0 = upd H q o
/-- a built-in of read values, one result -/
def rBi (K : PySem.W.Frag) (g : List D → Option (D × Fl)) : List V → Hp → VK → Prop := fun vs H Q => ∃ F ds x, Same F H ∧ Tops K F H vs ds ∧ g ds = some x ∧ ∀ H0 v H', Wid H H0 → Made K F H0 x.1 v H' → Q v H'
theorem call_weak {X : Cx} {f : Value} {r r' : List V → Hp → VK → Prop} (h : CallR X f r) (i : ∀ xs H Q, r' xs H Q → r xs H Q) : CallR X f r' := fun pins s σ H xs us Q I rr q => h pins s σ H xs us Q I rr (i xs H Q q)
section
variable {K : PySem.W.Frag} {F H : Hp} {vs : List V} {Q : VK}
theorem Tops.one {d : D} (h : Tops K F H vs [d]) : ∃ v, vs = [v] ∧ Top K F H v d := by
  cases h with
  | cons a t => cases t; exact ⟨_, rfl, a⟩
theorem Tops.two {d1 d2 : D} (h : Tops K F H vs [d1, d2]) : ∃ v1 v2, vs = [v1, v2] ∧ Top K F H v1 d1 ∧ Top K F H v2 d2 := by
  cases h with
  | cons a t =>
    obtain ⟨v, rfl, b⟩ := t.one
    exact ⟨_, _, rfl, a, b⟩
theorem Tops.three {d1 d2 d3 : D} (h : Tops K F H vs [d1, d2, d3]) : ∃ v1 v2 v3, vs = [v1, v2, v3] ∧ Top K F H v1 d1 ∧ Top K F H v2 d2 ∧ Top K F H v3 d3 := by
  cases h with
  | cons a t =>
    obtain ⟨v, w, rfl, b⟩ := t.two
    exact ⟨_, _, _, rfl, a, b⟩
theorem nums_len {ds : List D} : ∀ {ns : List Int}, nums ds = some ns → ds = ns.map PyData.int := by
  induction ds with
  | nil => intro ns h; cases h; rfl
  | cons d r ih =>
    intro ns h
    cases d <;> first | (cases h; done) | skip
    have h : (nums r).map (_ :: ·) = some ns := h
    rw [Option.map_eq_some_iff] at h
    obtain ⟨a, h1, rfl⟩ := h
    rw [ih h1]
    rfl
end
section
variable {X : Cx} {n : Nat}
theorem bi_len : CallR X (.builtin "len") (rBi X.K (biOp .len)) := by
  refine call_weak (call_len_seq.or call_len_str) fun xs H Q h => ?_
  obtain ⟨F, ds, x, sb, t, g, k⟩ := h
  unfold biOp at g
  split at g <;> first | (rename_i z _; cases z; done) | (rename_i z; cases z; done) | (cases g; done) | skip
  · obtain ⟨v, rfl, a⟩ := t.one
    cases g
    obtain ⟨p, us, rfl, h1, h2⟩ := a.lst sb
    refine .inl ⟨p, us, rfl, .inl h1, ?_⟩
    rw [h2.length]
    exact k _ _ _ (.inl rfl) (.inl ⟨rfl, rfl, .int _⟩)
  · obtain ⟨v, rfl, a⟩ := t.one
    cases g
    obtain ⟨p, us, rfl, h1, h2⟩ := a.tup sb
    refine .inl ⟨p, us, rfl, .inr h1, ?_⟩
    rw [h2.length]
    exact k _ _ _ (.inl rfl) (.inl ⟨rfl, rfl, .int _⟩)
  · obtain ⟨v, rfl, a⟩ := t.one
    cases a.str
    split at g
    · rename_i hz
      cases g
      exact .inr ⟨_, rfl, by rw [← lim_eq]; exact hz, k _ _ _ (.inl rfl) (.inl ⟨rfl, rfl, .int _⟩)⟩
    · cases g
/-- sum(t), max(t): tuples of ints -/
def rSumU (K : PySem.W.Frag) : List V → Hp → VK → Prop := fun vs H Q => ∃ (a : Addr) (ns : List Int), vs = [V.ref a] ∧ SqT K H a (ns.map V.int) ∧ Q (.int ns.sum) H
theorem pre_getD (ns : List Int) : ∀ j, preSum (fun i => ns.getD i 0) j = (ns.take j).sum
  | 0 => by simp [preSum]
  | j + 1 => by
    rw [preSum, pre_getD ns j, List.take_add_one, List.sum_append, List.getD_eq_getElem?_getD]
    cases ns[j]? <;> simp
theorem cr_sumU (hc : X.calm = true) : CallR X (.builtin "sum") (rSumU X.K) := by
  intro pins s σ H vs us Q I r h
  obtain ⟨a, ns, rfl, hs, q⟩ := h
  obtain ⟨its, rv, hl, _⟩ := I.tuple hs
  rw [Vals.ref1 r]
  have hi := rv.ints
  have nz : its.toArray.size = ns.length := by rw [List.size_toArray, hi.length]
  have hh : X.A.in1.handled = none := I.ok.hd hc
  have lt : a < s.heap.objs.size := by obtain ⟨_, e, _⟩ := hl; exact Heap.lt_size e
  refine call_sum_walkG (wpAny_pyIter_tuple hl ⟨_, _, _, _, _, _, fun i => ns.getD i 0, rfl, Walks.tuple (A := X.A.in1) hh _ a (Nat.ne_of_lt lt) its.toArray, ⟨⟨_, Heap.get?_push_size _ rfl, rfl, rfl⟩, hl.push _⟩, fun b hb => ?_, fun i v hv => ?_, fun h' tk t' hk => ?_⟩)
  · show b < (s.heap.push _).objs.size
    rw [Heap.size_push]
    rcases List.mem_cons.mp hb with z | z
    · rw [z]; exact Nat.lt_succ_self _
    · rw [List.mem_singleton.mp z]; exact Nat.lt_succ_of_lt lt
  · exact hi.int_at i v (by rw [← Array.getElem?_toList] at hv; exact hv)
  · rw [pre_getD, nz, List.take_length]
    refine ⟨.int _, H, I.kept fun b o e => hk b o (fun z => ?_) (Heap.get?_push_of_some _ e), ⟨_, rfl⟩, q⟩
    simp only [List.mem_cons, List.not_mem_nil, or_false] at z
    subst z
    exact absurd (Heap.lt_size e) (Nat.lt_irrefl _)
theorem bi_sum (hc : X.calm = true) : CallR X (.builtin "sum") (rBi X.K (biOp .sum)) := by
  refine call_weak ((cr_sum hc).or (cr_sumU hc)) fun xs H Q h => ?_
  obtain ⟨F, ds, x, sb, t, g, k⟩ := h
  unfold biOp at g
  split at g <;> first | (rename_i z _; cases z; done) | (rename_i z; cases z; done) | (cases g; done) | skip
  · obtain ⟨v, rfl, a⟩ := t.one
    obtain ⟨ns, hn, rfl⟩ := Option.map_eq_some_iff.mp g
    obtain ⟨p, us, rfl, h1, h2⟩ := a.lst sb
    rw [h2.nums hn] at h1
    exact .inl ⟨p, ns, rfl, h1, k _ _ _ (.inl rfl) (.inl ⟨rfl, rfl, .int _⟩)⟩
  · obtain ⟨v, rfl, a⟩ := t.one
    obtain ⟨ns, hn, rfl⟩ := Option.map_eq_some_iff.mp g
    obtain ⟨p, us, rfl, h1, h2⟩ := a.tup sb
    rw [h2.nums hn] at h1
    exact .inr ⟨p, ns, rfl, h1, k _ _ _ (.inl rfl) (.inl ⟨rfl, rfl, .int _⟩)⟩

theorem foldmax : ∀ (ns : List Int) (a : Int), (ns.foldl (fun m x => if x > m then x else m) a = a ∨ ns.foldl (fun m x => if x > m then x else m) a ∈ ns) ∧ a ≤ ns.foldl (fun m x => if x > m then x else m) a ∧ ∀ y ∈ ns, y ≤ ns.foldl (fun m x => if x > m then x else m) a
  | [], a => ⟨.inl rfl, Int.le_refl _, fun y h => nomatch h⟩
  | b :: r, a => by
    obtain ⟨h1, h2, h3⟩ := foldmax r (if b > a then b else a)
    rw [List.foldl_cons]
    refine ⟨?_, ?_, fun y hy => ?_⟩
    · rcases h1 with h1 | h1
      · rw [h1]
        split
        · exact .inr List.mem_cons_self
        · exact .inl rfl
      · exact .inr (List.mem_cons_of_mem _ h1)
    · refine Int.le_trans ?_ h2
      split <;> omega
    · rcases List.mem_cons.mp hy with rfl | hy
      · refine Int.le_trans ?_ h2
        split <;> omega
      · exact h3 y hy
theorem maxL_is {ns : List Int} {m : Int} (h : maxL ns = some m) : m ∈ ns ∧ ∀ y ∈ ns, y ≤ m := by
  cases ns with
  | nil => cases h
  | cons a r =>
    cases h
    obtain ⟨h1, h2, h3⟩ := foldmax r a
    refine ⟨?_, fun y hy => ?_⟩
    · rcases h1 with h1 | h1
      · rw [h1]; exact List.mem_cons_self
      · exact List.mem_cons_of_mem _ h1
    · rcases List.mem_cons.mp hy with rfl | hy
      · exact h2
      · exact h3 y hy
theorem maxL_eq {ns : List Int} {m k : Int} (h : maxL ns = some m) (h1 : k ∈ ns) (h2 : ∀ y ∈ ns, y ≤ k) : k = m := by
  obtain ⟨a, b⟩ := maxL_is h
  have := b k h1
  have := h2 m a
  omega
/-- max(t) of a tuple of ints -/
def rMaxU (K : PySem.W.Frag) : List V → Hp → VK → Prop := fun vs H Q => ∃ (a : Addr) (ns : List Int), vs = [V.ref a] ∧ SqT K H a (ns.map V.int) ∧ 0 < ns.length ∧ ∀ m, m ∈ ns → (∀ y, y ∈ ns → y ≤ m) → Q (.int m) H
theorem reads_ints {h : Heap} : ∀ {us : List Value} {ns : List Int}, IntsAre us ns → ∃ as, ReadsAll h us (ns.map PyData.int) as
  | _, _, .nil => ⟨_, .nil⟩
  | _, _, .cons i t r => by
    obtain ⟨as, q⟩ := reads_ints (h := h) r
    exact ⟨_, .cons (.int i t) q⟩
theorem depth_ints : ∀ ns : List Int, PyData.depthAll (ns.map PyData.int) ≤ 1
  | [] => by simp [PyData.depthAll]
  | i :: r => by
    have := depth_ints r
    rw [List.map_cons]
    unfold PyData.depthAll
    simp only [PyData.depth]
    omega
theorem cr_maxU (hc : X.calm = true) (hr : Room 5 X.A) : CallR X (.builtin "max") (rMaxU X.K) := by
  intro pins s σ H vs us Q I r h
  obtain ⟨a, ns, rfl, hs, hz, q⟩ := h
  obtain ⟨its, rv, hl, _⟩ := I.tuple hs
  rw [Vals.ref1 r]
  have hi := rv.ints
  cases ns with
  | nil => simp at hz
  | cons i ns =>
    obtain ⟨as, rd⟩ := reads_ints (h := s.heap) hi
    refine PySem.W.max_tuple_data (x := .int i) (xs := ns.map .int) (I.ok.hd hc) hl (by simpa using rd) ⟨fun x hx y hy => ?_, fun x hx => ?_⟩ ?_ fun j v h' tk bs hv hrd hk => ?_
    · have hx : x ∈ (i :: ns).map PyData.int := by simpa using hx
      have hy : y ∈ (i :: ns).map PyData.int := by simpa using hy
      obtain ⟨c, _, rfl⟩ := List.mem_map.mp hx
      obtain ⟨d, _, rfl⟩ := List.mem_map.mp hy
      rfl
    · have hx : x ∈ (i :: ns).map PyData.int := by simpa using hx
      obtain ⟨c, _, rfl⟩ := List.mem_map.mp hx
      intro z; cases z
    · have := depth_ints (i :: ns)
      have hu := hr.units
      rw [List.map_cons] at this
      omega
    · rw [PySem.W.maxD_ints] at hrd
      cases hrd
      have e : ∀ (l : List Int) (b : Int), l.foldl max b = l.foldl (fun m x => if x > m then x else m) b := fun l => by
        induction l with
        | nil => intro b; rfl
        | cons c r ih =>
          intro b
          rw [List.foldl_cons, List.foldl_cons, ih]
          congr 1
          by_cases hcb : c > b
          · rw [if_pos hcb]; omega
          · rw [if_neg hcb]; omega
      have := maxL_is (ns := i :: ns) (m := ns.foldl max i) (by rw [e]; rfl)
      exact ⟨.int _, H, I.kept hk, ⟨_, rfl⟩, q _ this.1 this.2⟩
theorem bi_max1 (hc : X.calm = true) (hr : Room 5 X.A) : CallR X (.builtin "max") (rBi X.K (biOp .max1)) := by
  refine call_weak ((cr_max hc).or (cr_maxU hc hr)) fun xs H Q h => ?_
  obtain ⟨F, ds, x, sb, t, g, k⟩ := h
  unfold biOp at g
  split at g <;> first | (rename_i z _; cases z; done) | (rename_i z; cases z; done) | (cases g; done) | skip
  · obtain ⟨v, rfl, a⟩ := t.one
    obtain ⟨ns, hn, g⟩ := Option.bind_eq_some_iff.mp g
    obtain ⟨m, hm, rfl⟩ := Option.map_eq_some_iff.mp g
    obtain ⟨p, us, rfl, h1, h2⟩ := a.lst sb
    rw [h2.nums hn] at h1
    refine .inl ⟨p, ns, rfl, h1, by cases ns <;> first | (cases hm; done) | simp, fun m' q1 q2 => ?_⟩
    rw [maxL_eq hm q1 q2]
    exact k _ _ _ (.inl rfl) (.inl ⟨rfl, rfl, .int _⟩)
  · obtain ⟨v, rfl, a⟩ := t.one
    obtain ⟨ns, hn, g⟩ := Option.bind_eq_some_iff.mp g
    obtain ⟨m, hm, rfl⟩ := Option.map_eq_some_iff.mp g
    obtain ⟨p, us, rfl, h1, h2⟩ := a.tup sb
    rw [h2.nums hn] at h1
    refine .inr ⟨p, ns, rfl, h1, by cases ns <;> first | (cases hm; done) | simp, fun m' q1 q2 => ?_⟩
    rw [maxL_eq hm q1 q2]
    exact k _ _ _ (.inl rfl) (.inl ⟨rfl, rfl, .int _⟩)
theorem bi_max2 (hc : X.calm = true) : CallR X (.builtin "max") (rBi X.K (biOp .max2)) := by
  refine call_weak (call_max2 hc) fun xs H Q h => ?_
  obtain ⟨F, ds, x, sb, t, g, k⟩ := h
  unfold biOp at g
  split at g <;> first | (rename_i z _; cases z; done) | (rename_i z; cases z; done) | (cases g; done) | skip
  obtain ⟨v, w, rfl, a, b⟩ := t.two
  cases a.int; cases b.int; cases g
  exact ⟨_, _, rfl, k _ _ _ (.inl rfl) (.inl ⟨rfl, rfl, .int _⟩)⟩
theorem bi_min2 (hc : X.calm = true) : CallR X (.builtin "min") (rBi X.K (biOp .min2)) := by
  refine call_weak (call_min2 hc) fun xs H Q h => ?_
  obtain ⟨F, ds, x, sb, t, g, k⟩ := h
  unfold biOp at g
  split at g <;> first | (rename_i z _; cases z; done) | (rename_i z; cases z; done) | (cases g; done) | skip
  obtain ⟨v, w, rfl, a, b⟩ := t.two
  cases a.int; cases b.int; cases g
  exact ⟨_, _, rfl, k _ _ _ (.inl rfl) (.inl ⟨rfl, rfl, .int _⟩)⟩
theorem bi_max3 (hc : X.calm = true) : CallR X (.builtin "max") (rBi X.K (biOp .max3)) := by
  refine call_weak (call_max3Nu hc) fun xs H Q h => ?_
  obtain ⟨F, ds, x, sb, t, g, k⟩ := h
  unfold biOp at g
  split at g <;> first | (rename_i z _; cases z; done) | (rename_i z; cases z; done) | (cases g; done) | skip
  obtain ⟨v, w, u, rfl, a, b, c⟩ := t.three
  cases a.int; cases b.int; cases c.int; cases g
  rename_i i j l _
  refine ⟨.int i, .int j, .int l, _, rfl, ?_, k _ _ _ (.inl rfl) (.inl ⟨rfl, rfl, .int _⟩)⟩
  have e : ∀ i j : Int, nuMax2 (.int i) (.int j) = some (.int (if j > i then j else i)) := fun i j => by
    show some (if decide (i < j) = true then V.int j else V.int i) = _
    by_cases q : i < j
    · rw [if_pos (decide_eq_true q), if_pos q]
    · rw [if_neg (by rw [decide_eq_false q]; exact Bool.false_ne_true), if_neg q]
  unfold nuMax3
  rw [e, Option.bind_some, e]
theorem bi_int1 : CallR X (.type "int") (rBi X.K (biOp .int1)) := by
  refine call_weak call_int1 fun xs H Q h => ?_
  obtain ⟨F, ds, x, sb, t, g, k⟩ := h
  unfold biOp at g
  split at g <;> first | (rename_i z _; cases z; done) | (rename_i z; cases z; done) | (cases g; done) | skip
  · obtain ⟨v, rfl, a⟩ := t.one
    cases a.int; cases g
    exact .inl ⟨_, rfl, k _ _ _ (.inl rfl) (.inl ⟨rfl, rfl, .int _⟩)⟩
  · obtain ⟨v, rfl, a⟩ := t.one
    cases a.bool; cases g
    exact .inr ⟨_, rfl, k _ _ _ (.inl rfl) (.inl ⟨rfl, rfl, .int _⟩)⟩
theorem bi_all1 (hc : X.calm = true) : CallR X (.builtin "all") (rBi X.K (biOp .all1)) := by
  refine call_weak (cr_all hc) fun xs H Q h => ?_
  obtain ⟨F, ds, x, sb, t, g, k⟩ := h
  unfold biOp at g
  split at g <;> first | (rename_i z _; cases z; done) | (rename_i z; cases z; done) | (cases g; done) | skip
  obtain ⟨v, rfl, a⟩ := t.one
  obtain ⟨bs, hn, rfl⟩ := Option.map_eq_some_iff.mp g
  obtain ⟨p, us, rfl, h1, h2⟩ := a.lst sb
  rw [h2.bools hn] at h1
  exact ⟨p, bs, rfl, h1, k _ _ _ (.inl rfl) (.inl ⟨rfl, rfl, .bl _⟩)⟩
theorem bi_gcd : CallR X (.builtin "math.gcd") (rBi X.K (biOp .gcd)) := by
  refine call_weak cr_gcd fun xs H Q h => ?_
  obtain ⟨F, ds, x, sb, t, g, k⟩ := h
  unfold biOp at g
  split at g <;> first | (rename_i z _; cases z; done) | (rename_i z; cases z; done) | (cases g; done) | skip
  obtain ⟨v, w, rfl, a, b⟩ := t.two
  cases a.int; cases b.int; cases g
  exact ⟨_, _, rfl, k _ _ _ (.inl rfl) (.inl ⟨rfl, rfl, .int _⟩)⟩
theorem bi_tuple1 : CallR X (.type "tuple") (rBi X.K (biOp .tuple1)) := by
  refine call_weak call_tuple_of fun xs H Q h => ?_
  obtain ⟨F, ds, x, sb, t, g, k⟩ := h
  unfold biOp at g
  split at g <;> first | (rename_i z _; cases z; done) | (rename_i z; cases z; done) | (cases g; done) | skip
  · obtain ⟨v, rfl, a⟩ := t.one
    cases g
    obtain ⟨p, us, rfl, h1, h2⟩ := a.lst sb
    exact ⟨p, us, rfl, .inl ⟨h1, fun l hl => k _ _ _ (.inl rfl) (.inr (.inr ⟨l, us, _, hl, rfl, rfl, rfl, h2⟩))⟩⟩
  · obtain ⟨v, rfl, a⟩ := t.one
    cases g
    obtain ⟨p, us, rfl, h1, h2⟩ := a.tup sb
    refine ⟨p, us, rfl, .inr ⟨h1, k _ _ _ (.inl rfl) (.inl ⟨rfl, rfl, ?_⟩)⟩⟩
    rcases a with a | ⟨_, _, _, e, _⟩
    · exact a
    · cases e
theorem bi_list1 : CallR X (.type "list") (rBi X.K (biOp .list1)) := by
  refine call_weak call_list_of fun xs H Q h => ?_
  obtain ⟨F, ds, x, sb, t, g, k⟩ := h
  unfold biOp at g
  split at g <;> first | (rename_i z _; cases z; done) | (rename_i z; cases z; done) | (cases g; done) | skip
  · obtain ⟨v, rfl, a⟩ := t.one
    cases g
    obtain ⟨p, us, rfl, h1, h2⟩ := a.lst sb
    exact ⟨p, us, rfl, .inl h1, fun l hl => k _ _ _ (.inl rfl) (.inr (.inl ⟨l, us, _, hl, rfl, rfl, rfl, h2⟩))⟩
  · obtain ⟨v, rfl, a⟩ := t.one
    cases g
    obtain ⟨p, us, rfl, h1, h2⟩ := a.tup sb
    exact ⟨p, us, rfl, .inr h1, fun l hl => k _ _ _ (.inl rfl) (.inr (.inl ⟨l, us, _, hl, rfl, rfl, rfl, h2⟩))⟩
end
end TI

set_option Elab.async false
set_option autoImplicit false
set_option maxRecDepth 100000
set_option maxHeartbeats 8000000
set_option linter.all false
/-! TI10: sets of a list's ints, sorted lists. -/
namespace L2
open PySem PySem.Spec PyProof.Rows
/-- an empty set's object -/
abbrev bareSet (w : World) : Obj := { cls := .type "set", dict := none, data := .set #[] 0 (.fresh 0 0 (!w.params.followText "set-order")) }
section
variable {P : Program} {w : World} {A : Around} {E : Value → Shared → Prop} {s : Shared}
theorem call_set_lstI {l : Addr} {its : Array Value} (ns : List Int) {Q : Value → Shared → Prop} (calm : A.handled = none) (isl : s.heap.IsList l its) (ia : IntsAre its.toList ns) (few : ns.length + 1 < scanBound)
    (out : ∀ (hp : Heap) (tk c : Nat), SetR w hp s.heap.objs.size (fun j => decide (j ∈ ns)) c → c ≤ ns.length → (∀ b o, s.heap.get? b = some o → hp.get? b = some o) → Q (.ref s.heap.objs.size) { s with heap := hp, toks := tk }) :
    wpAny (model P w) A (call (.type "set") [.ref l]) Q E s := by
  have sz : its.size = ns.length := by rw [← IntsAre.length ia, Array.length_toList]
  obtain ⟨c0, tl0, mro⟩ := F.called_set.mro
  have made0 := F.called_set.made
  have sub0 := F.called_set.sub
  refine wpAny_call (codeAny_of_tree ?_)
  show wpAny _ _ (callAny (.type "set") _) _ _ _
  refine wpAny_pure ⟨Code.quiet_builtin _ (by decide +kernel), codeAny_builtin F.entry_type_call ?_⟩
  rw [Around.under_plain (weight_type_call_type "set" [.ref l] []) rfl]
  have nt0 := F.called_set.notType
  have cc0 := F.called_set.canCreate
  have tc0 := F.typeCall_set_1 (.ref l)
  repeat (any_goals (first | assumption | wp_step))
  refine codeAny_mono (code_set_led1 (.ref l) (E := E) (Q₁ := fun o1 t1 => o1 = .ref s.heap.objs.size ∧ t1 = { s with heap := s.heap.push (bareSet w) }) ⟨rfl, rfl⟩) fun r1 t1 k1 => ?_
  rcases r1 with ev | f1
  · exact k1
  cases f1 <;> first | exact k1.elim | skip
  obtain ⟨rfl, rfl⟩ := k1
  have at0 : (s.heap.push (bareSet w)).get? s.heap.objs.size = some (bareSet w) := Heap.get?_push_size _ rfl
  have ty0 : Shared.TypeIs { s with heap := s.heap.push (bareSet w) } (.ref s.heap.objs.size) "set" := ⟨_, at0, rfl⟩
  have lk0 := F.called_set.init.lookup
  have bd0 := F.called_set.init.bind (.ref s.heap.objs.size)
  repeat (any_goals (first | assumption | wp_step))
  refine codeAny_mono (codeAny_call_builtin (R := wants (fun r2 t2 => r2 = .none ∧ ∃ hp tk c, t2 = { s with heap := hp, toks := tk } ∧ SetR w hp s.heap.objs.size (fun j => decide (j ∈ ns)) c ∧ c ≤ ns.length ∧ (∀ b o, s.heap.get? b = some o → hp.get? b = some o)) E)
    F.called_set.init.plain F.entry_set_init (check_set_init_1 ty0 ?_)) fun r2 t2 k2 => ?_
  · obtain ⟨⟨lc, ld, ldt, lsl⟩, at1, c1, n1, d1⟩ := isl
    simp only at c1 d1
    subst c1 d1
    have at2 : (s.heap.push (bareSet w)).get? l = some { cls := .type "list", dict := ld, data := .seq its n1, slots := lsl } := Heap.get?_push_of_some _ at1
    have no1 := F.sub_list_set
    have no2 := F.sub_list_frozenset
    have no3 : (Value.type "list" == Value.type "dict") = false := by decide
    have isl1 : (s.heap.push (bareSet w)).IsList l its := ⟨_, at2, rfl, n1, rfl⟩
    unfold Builtin.«set.__init__» noKeywords Builtin.Frozenset.updateFrom
    generalize gen : pyIter = iter0
    wp_walk
    subst gen
    refine wpAny_pyIter_list isl1 (wpAny_bind (wpAny_runValue ?_))
    have ll : l < s.heap.objs.size := Heap.lt_size at1
    have calm3 : A.in1.in1.in1.handled = none := calm
    have sz1 : (s.heap.push (bareSet w)).objs.size = s.heap.objs.size + 1 := Heap.size_push ..
    have up : ∀ b, b < s.heap.objs.size + 1 → b ≠ (s.heap.push (bareSet w)).objs.size := fun b lb z => by
      rw [z] at lb
      exact absurd (sz1 ▸ lb) (Nat.lt_irrefl _)
    have ne1 : l ≠ (s.heap.push (bareSet w)).objs.size := up l (Nat.lt_succ_of_lt ll)
    have ne2 : s.heap.objs.size ∉ [(s.heap.push (bareSet w)).objs.size, l] := fun z => by
      rcases List.mem_cons.mp z with z | z
      · exact up _ (Nat.lt_succ_self _) z
      · rw [← List.mem_singleton.mp z] at ll
        exact absurd ll (Nat.lt_irrefl _)
    have val : ∀ (i : Nat) (v : Value), its[i]? = some v → ∃ k t, ns[i]? = some k ∧ v = .int k t := fun i v q => by
      have li : i < ns.length := by
        have := (Array.getElem?_eq_some_iff.mp q).1
        omega
      rw [← Array.getElem?_toList] at q
      obtain ⟨t, e⟩ := ia.int_at i v q
      exact ⟨ns.getD i 0, t, by rw [List.getD_eq_getElem?_getD, List.getElem?_eq_getElem li]; rfl, e⟩
    refine set_update_ints ((Walks.list calm3 _ l ne1 its).toS) s.heap.objs.size ne2 ns sz few val (its.size - 0) 0 _ (by omega) (Nat.zero_le _) ⟨⟨_, Heap.get?_push_size _ rfl, rfl, rfl⟩, (isl1.push _)⟩
      ⟨0, Nat.le_refl 0, setR_new_at (Heap.get?_push_of_some _ at0)⟩ fun t3 c3 mv le3 sr3 => ?_
    obtain ⟨h3, g3, d3, tk3, os3⟩ := t3
    have e1 : g3 = s.gens := mv.gens
    have e2 : d3 = s.drawn := mv.drawn
    have e3 : os3 = s.os := mv.os
    subst e1 e2 e3
    show wpAny _ _ _ _ _ _
    refine wpAny_pure ?_
    show wpAny _ _ (ret Value.none) _ _ _
    refine wpAny_pure ⟨rfl, h3, tk3, c3, rfl, sr3, by omega, fun b o q => ?_⟩
    have lb : b < s.heap.objs.size := Heap.lt_size q
    refine mv.heap b o (fun z => ?_) (Heap.get?_push_of_some _ (Heap.get?_push_of_some _ q))
    rcases List.mem_cons.mp z with z | z
    · exact absurd lb (z ▸ Nat.lt_irrefl _)
    · exact up b (Nat.lt_succ_of_lt lb) (List.mem_singleton.mp z)
  · rcases r2 with ev | f2
    · exact k2
    cases f2 <;> first | exact k2.elim | skip
    obtain ⟨rfl, hp, tk, c, rfl, q1, q2, q3⟩ := k2
    repeat (any_goals (first | assumption | wp_step))
    exact out _ _ _ q1 q2 q3
end
section
variable {X : Cx}
/-- set(xs) of a list of ints -/
def rSetL1 (X : Cx) : List V → Hp → VK → Prop := fun vs H Q => ∃ (a : Addr) (ns : List Int), vs = [V.ref a] ∧ SqL X.K H a (ns.map V.int) ∧ ns.length + 1 < scanBound ∧
  ∀ p c, H p = none → c ≤ ns.length → Q (.ref p) (upd H p (SetO X.w p (fun j => decide (j ∈ ns)) c))
theorem cr_setL1 (hc : X.calm = true) : CallR X (.type "set") (rSetL1 X) := by
  intro pins s σ H vs us Q I r h
  obtain ⟨a, ns, rfl, hs, hz, q⟩ := h
  obtain ⟨its, rv, hl, _⟩ := I.list hs
  rw [Vals.ref1 r]
  refine call_set_lstI ns (I.ok.hd hc) hl.isList rv.ints hz fun hp tk c sr le kp => ?_
  exact ⟨.ref s.heap.objs.size, upd H s.heap.objs.size (SetO X.w s.heap.objs.size _ c), I.laid (t' := tk) kp (Nat.le_refl _) (setO_new sr), rfl, q _ c (I.hok.fresh (Nat.le_refl _)) le⟩
end
end L2
namespace TI
open PySem PySem.Spec PyProof.Rows L2
/-! ### ascending lists -/
theorem ins_perm (a : Int) : ∀ l : List Int, (ins a l).Perm (a :: l)
  | [] => .refl _
  | b :: r => by
    unfold ins
    split
    · exact .refl _
    · exact ((ins_perm a r).cons b).trans (.swap a b r)
theorem isort_perm : ∀ l : List Int, (isort l).Perm l
  | [] => .refl _
  | a :: r => (ins_perm a (isort r)).trans ((isort_perm r).cons a)
theorem ins_asc (a : Int) : ∀ l : List Int, l.Pairwise (· ≤ ·) → (ins a l).Pairwise (· ≤ ·)
  | [], _ => by simp [ins]
  | b :: r, h => by
    unfold ins
    have h' := List.pairwise_cons.mp h
    split
    · rename_i le
      refine List.pairwise_cons.mpr ⟨fun c hc => ?_, h⟩
      rcases List.mem_cons.mp hc with rfl | hc
      · exact le
      · exact Int.le_trans le (h'.1 c hc)
    · rename_i le
      refine List.pairwise_cons.mpr ⟨fun c hc => ?_, ins_asc a r h'.2⟩
      rcases List.mem_cons.mp ((ins_perm a r).mem_iff.mp hc) with rfl | hc
      · omega
      · exact h'.1 c hc
theorem isort_asc : ∀ l : List Int, (isort l).Pairwise (· ≤ ·)
  | [] => .nil
  | a :: r => ins_asc a _ (isort_asc r)
theorem isort_eq {l m : List Int} (p : m.Perm l) (s : m.Pairwise (· ≤ ·)) : m = isort l :=
  List.Perm.eq_of_pairwise (le := (· ≤ ·)) (fun a b _ _ h1 h2 => by omega) s (isort_asc l) (p.trans (isort_perm l).symm)
/-! ### lists of ints by their words -/
theorem lexLt_irrefl : ∀ a : List Int, lexLt a a = false
  | [] => rfl
  | x :: r => by rw [lexLt, if_pos rfl]; exact lexLt_irrefl r
theorem lex_trans : ∀ {a b c : List Int}, lexLt b a = false → lexLt c b = false → lexLt c a = false
  | [], [], c, _, h => h
  | [], y :: b, [], h, h' => rfl
  | [], y :: b, z :: c, h, h' => rfl
  | x :: a, [], c, h, h' => by cases h
  | x :: a, y :: b, [], h, h' => by cases h'
  | x :: a, y :: b, z :: c, h, h' => by
    unfold lexLt at h h' ⊢
    by_cases e1 : y = x
    · subst e1
      rw [if_pos rfl] at h
      by_cases e2 : z = y
      · subst e2
        rw [if_pos rfl] at h' ⊢
        exact lex_trans h h'
      · rw [if_neg e2] at h' ⊢
        exact h'
    · rw [if_neg e1] at h
      have q := of_decide_eq_false h
      by_cases e2 : z = y
      · subst e2
        rw [if_neg e1]
        exact h
      · rw [if_neg e2] at h'
        have q' := of_decide_eq_false h'
        rw [if_neg (by omega)]
        exact decide_eq_false (by omega)
theorem lex_anti : ∀ {a b : List Int}, lexLt b a = false → lexLt a b = false → a = b
  | [], [], _, _ => rfl
  | [], _ :: _, _, h => by cases h
  | _ :: _, [], h, _ => by cases h
  | x :: a, y :: b, h, h' => by
    unfold lexLt at h h'
    by_cases e : x = y
    · subst e
      rw [if_pos rfl] at h h'
      rw [lex_anti h h']
    · rw [if_neg (fun z => e z.symm)] at h
      rw [if_neg e] at h'
      have := of_decide_eq_false h
      have := of_decide_eq_false h'
      omega
theorem lex_asym : ∀ {a b : List Int}, lexLt b a = true → lexLt a b = false
  | [], [], h => by cases h
  | [], _ :: _, h => by cases h
  | _ :: _, [], _ => rfl
  | x :: a, y :: b, h => by
    unfold lexLt at h ⊢
    by_cases e : x = y
    · subst e
      rw [if_pos rfl] at h ⊢
      exact lex_asym h
    · rw [if_neg (fun z => e z.symm)] at h
      rw [if_neg e]
      have := of_decide_eq_true h
      exact decide_eq_false (by omega)
theorem insT_perm (a : List Int) : ∀ l : List (List Int), (insT a l).Perm (a :: l)
  | [] => .refl _
  | b :: r => by
    unfold insT
    split
    · exact ((insT_perm a r).cons b).trans (.swap a b r)
    · exact .refl _
theorem isortT_perm : ∀ l : List (List Int), (isortT l).Perm l
  | [] => .refl _
  | a :: r => (insT_perm a (isortT r)).trans ((isortT_perm r).cons a)
theorem insT_asc (a : List Int) : ∀ l : List (List Int), l.Pairwise (fun x y => lexLt y x = false) → (insT a l).Pairwise (fun x y => lexLt y x = false)
  | [], _ => by simp [insT]
  | b :: r, h => by
    unfold insT
    have h' := List.pairwise_cons.mp h
    split
    · rename_i lt
      refine List.pairwise_cons.mpr ⟨fun c hc => ?_, insT_asc a r h'.2⟩
      rcases List.mem_cons.mp ((insT_perm a r).mem_iff.mp hc) with rfl | hc
      · exact lex_asym lt
      · exact h'.1 c hc
    · rename_i lt
      have lt : lexLt b a = false := by simpa using lt
      refine List.pairwise_cons.mpr ⟨fun c hc => ?_, h⟩
      rcases List.mem_cons.mp hc with rfl | hc
      · exact lt
      · exact lex_trans lt (h'.1 c hc)
theorem isortT_asc : ∀ l : List (List Int), (isortT l).Pairwise (fun x y => lexLt y x = false)
  | [] => .nil
  | a :: r => insT_asc a _ (isortT_asc r)
theorem isortT_eq {l m : List (List Int)} (p : m.Perm l) (s : m.Pairwise (fun x y => lexLt y x = false)) : m = isortT l :=
  List.Perm.eq_of_pairwise (le := fun x y => lexLt y x = false) (fun a b _ _ h1 h2 => lex_anti h1 h2) s (isortT_asc l) (p.trans (isortT_perm l).symm)
theorem lex_code {B : Int} : ∀ {a b : List Int}, a.length = b.length → TS.Bd B a → TS.Bd B b → TS.code B a ≤ TS.code B b → lexLt b a = false
  | [], [], _, _, _, _ => rfl
  | [], _ :: _, h, _, _, _ => by cases h
  | _ :: _, [], h, _, _, _ => by cases h
  | x :: a, y :: b, h, ha, hb, hc => by
    have hl : a.length = b.length := by simpa using h
    unfold lexLt
    by_cases e : y = x
    · subst e
      rw [if_pos rfl]
      refine lex_code hl ha.tail hb.tail ?_
      have hc : y * B ^ a.length + TS.code B a ≤ y * B ^ b.length + TS.code B b := hc
      rw [hl] at hc
      omega
    · rw [if_neg e]
      refine decide_eq_false fun lt => ?_
      have := TS.code_lt (d := y) (e := x) hl.symm hb.tail ha.tail lt
      omega
end TI

set_option Elab.async false
set_option autoImplicit false
set_option maxRecDepth 100000
set_option maxHeartbeats 8000000
set_option linter.all false
/-! TI11: sorted; calls of built-ins. -/
namespace TI
open PySem PySem.Spec PyProof.Rows L2
theorem insU_mem (a : Int) : ∀ (l : List Int) (k : Int), k ∈ insU a l ↔ k = a ∨ k ∈ l
  | [], k => by simp [insU]
  | b :: r, k => by
    unfold insU
    split
    · simp
    · split
      · rename_i e
        subst e
        simp
      · rw [List.mem_cons, insU_mem a r k, List.mem_cons]
        constructor
        · rintro (h | h | h)
          · exact .inr (.inl h)
          · exact .inl h
          · exact .inr (.inr h)
        · rintro (h | h | h)
          · exact .inr (.inl h)
          · exact .inl h
          · exact .inr (.inr h)
theorem insU_asc (a : Int) : ∀ l : List Int, l.Pairwise (· < ·) → (insU a l).Pairwise (· < ·)
  | [], _ => by simp [insU]
  | b :: r, h => by
    unfold insU
    have h' := List.pairwise_cons.mp h
    split
    · rename_i lt
      refine List.pairwise_cons.mpr ⟨fun c hc => ?_, h⟩
      rcases List.mem_cons.mp hc with rfl | hc
      · exact lt
      · exact Int.lt_trans lt (h'.1 c hc)
    · split
      · exact h
      · rename_i n1 n2
        refine List.pairwise_cons.mpr ⟨fun c hc => ?_, insU_asc a r h'.2⟩
        rcases (insU_mem a r c).mp hc with rfl | hc
        · omega
        · exact h'.1 c hc
theorem usort_mem : ∀ (l : List Int) (k : Int), k ∈ usort l ↔ k ∈ l
  | [], k => .rfl
  | a :: r, k => by
    unfold usort
    rw [insU_mem, usort_mem r k, List.mem_cons]
theorem usort_asc : ∀ l : List Int, (usort l).Pairwise (· < ·)
  | [] => .nil
  | a :: r => insU_asc a _ (usort_asc r)
theorem asc_unique : ∀ {l m : List Int}, l.Pairwise (· < ·) → m.Pairwise (· < ·) → (∀ k, k ∈ l ↔ k ∈ m) → l = m
  | [], [], _, _, _ => rfl
  | [], b :: m, _, _, h => by cases (h b).mpr List.mem_cons_self
  | a :: l, [], _, _, h => by cases (h a).mp List.mem_cons_self
  | a :: l, b :: m, hl, hm, h => by
    have hl' := List.pairwise_cons.mp hl
    have hm' := List.pairwise_cons.mp hm
    have e : a = b := by
      rcases List.mem_cons.mp ((h a).mp List.mem_cons_self) with z | z
      · exact z
      · have z2 := hm'.1 a z
        rcases List.mem_cons.mp ((h b).mpr List.mem_cons_self) with w | w
        · exact w.symm
        · have := hl'.1 b w
          omega
    subst e
    rw [asc_unique hl'.2 hm'.2 fun k => ?_]
    constructor
    · intro hk
      rcases List.mem_cons.mp ((h k).mp (List.mem_cons_of_mem _ hk)) with z | z
      · have := hl'.1 k hk
        omega
      · exact z
    · intro hk
      rcases List.mem_cons.mp ((h k).mpr (List.mem_cons_of_mem _ hk)) with z | z
      · have := hm'.1 k hk
        omega
      · exact z
section
variable {K : PySem.W.Frag} {F H : Hp}
theorem dp_perm {vs us : List V} (p : us.Perm vs) : ∀ {ds : List D}, DpAll K F vs ds → ∃ es, DpAll K F us es ∧ es.Perm ds := by
  induction p with
  | nil => intro ds h; cases h; exact ⟨[], .nil, .nil⟩
  | @cons x l1 l2 _ ih =>
    intro ds h
    cases h with
    | cons a t =>
      obtain ⟨es, h1, h2⟩ := ih t
      exact ⟨_ :: es, .cons a h1, h2.cons _⟩
  | @swap x y l =>
    intro ds h
    cases h with
    | cons a t =>
      cases t with
      | cons b t => exact ⟨_, .cons b (.cons a t), .swap _ _ _⟩
  | trans _ _ ih1 ih2 =>
    intro ds h
    obtain ⟨e1, h1, h2⟩ := ih2 h
    obtain ⟨e2, h3, h4⟩ := ih1 h1
    exact ⟨e2, h3, h4.trans h2⟩
theorem tups_eq : ∀ {ds : List D} {ts : List (List Int)}, tupsNums ds = some ts → ds = ts.map fun t => .tuple (t.map .int)
  | [], ts, h => by cases h; rfl
  | d :: r, ts, h => by
    obtain ⟨a, h1, h2⟩ := Option.bind_eq_some_iff.mp (show (tupNums d).bind (fun a => (tupsNums r).map (a :: ·)) = some ts from h)
    obtain ⟨b, h3, rfl⟩ := Option.map_eq_some_iff.mp h2
    cases d <;> first | (cases h1; done) | skip
    rename_i xs
    rw [nums_len h1, tups_eq h3]
    rfl
theorem tupI_of (sb : Same F H) {v : V} {t : List Int} (h : Dp K F v (.tuple (t.map .int))) : TupI K H v t := by
  cases h with
  | tup h1 h2 =>
    rename_i a vs
    have := h2.nums (ns := t) (by
      clear h1 h2
      induction t with
      | nil => rfl
      | cons i r ih => rw [List.map_cons, nums, ih]; rfl)
    subst this
    exact ⟨a, rfl, seqT sb h1⟩
theorem tups_perm {es : List D} {ts : List (List Int)} (p : es.Perm (ts.map fun t => PyData.tuple (t.map .int))) : ∃ us : List (List Int), us.Perm ts ∧ es = us.map fun t => PyData.tuple (t.map .int) := by
  have inj : ∀ (a b : List Int), a.map PyData.int = b.map PyData.int → a = b := fun a => by
    induction a with
    | nil => intro b h; cases b <;> first | rfl | cases h
    | cons x a ih =>
      intro b h
      cases b with
      | nil => cases h
      | cons y b =>
        injection h with h1 h2
        injection h1 with h1
        rw [h1, ih b h2]
  let g : PyData → List Int := fun d => (tupNums d).getD []
  have gi : ∀ t : List Int, g (.tuple (t.map .int)) = t := fun t => by
    show (nums (t.map .int)).getD [] = t
    have : nums (t.map PyData.int) = some t := by
      induction t with
      | nil => rfl
      | cons i r ih => rw [List.map_cons, nums, ih]; rfl
    rw [this]
    rfl
  refine ⟨es.map g, ?_, ?_⟩
  · have := p.map g
    rw [List.map_map] at this
    rw [show (g ∘ fun t => PyData.tuple (t.map .int)) = id from funext gi, List.map_id] at this
    exact this
  · rw [List.map_map]
    refine (List.map_id _).symm.trans (List.map_congr_left fun d hd => ?_)
    obtain ⟨t, _, rfl⟩ := List.mem_map.mp (p.mem_iff.mp hd)
    show _ = PyData.tuple ((g (.tuple (t.map .int))).map .int)
    rw [gi]
    rfl
theorem dp_pairwise (sb : Same F H) {B : Int} : ∀ {vs : List V} {us : List (List Int)}, DpAll K F vs (us.map fun t => PyData.tuple (t.map .int)) → vs.Pairwise (fun x y => ∀ n m, TupI K H x n → TupI K H y m → TS.code B n ≤ TS.code B m) → us.Pairwise (fun a b => TS.code B a ≤ TS.code B b)
  | _, [], _, _ => .nil
  | _, u :: us, .cons a t, h => by
    have h' := List.pairwise_cons.mp h
    refine List.pairwise_cons.mpr ⟨fun b hb => ?_, dp_pairwise sb t h'.2⟩
    obtain ⟨i, hi⟩ := List.getElem?_of_mem hb
    obtain ⟨v, hv, hd⟩ := t.getD (i := i) (d := .tuple (b.map .int)) (by rw [List.getElem?_map, hi]; rfl)
    exact h'.1 v (List.mem_of_getElem? hv) u b (tupI_of sb a) (tupI_of sb hd)
end
section
variable {X : Cx}
theorem bi_sorted1 (hc : X.calm = true) : CallR X (.builtin "sorted") (rBi X.K (biOp .sorted1)) := by
  intro pins s σ H vs us Q I r h
  obtain ⟨F, ds, x, sb, t, g, k⟩ := h
  unfold biOp at g
  split at g <;> first | (rename_i z _; cases z; done) | (rename_i z; cases z; done) | (cases g; done) | skip
  rename_i xs _
  obtain ⟨v, rfl, a⟩ := t.one
  obtain ⟨p, ws, rfl, h1, h2⟩ := a.lst sb
  cases hn : nums xs with
  | some ns =>
    rw [hn] at g
    cases g
    rw [h2.nums hn] at h1
    refine cr_sortedI pins s σ H _ us Q I r ⟨p, ns, rfl, h1, fun ns' l q1 q2 q3 => ?_⟩
    rw [isort_eq q1 q2]
    exact k _ _ _ (.inl rfl) (.inr (.inl ⟨l, _, _, q3, rfl, rfl, rfl, DpAll.ints⟩))
  | none =>
    rw [hn] at g
    obtain ⟨ts, ht, g⟩ := Option.bind_eq_some_iff.mp g
    split at g
    · rename_i hz
      cases g
      simp only [Bool.and_eq_true, decide_eq_true_eq] at hz
      obtain ⟨⟨z1, z2⟩, z3⟩ := hz
      have ex := tups_eq ht
      subst ex
      have z2 : ∀ u ∈ ts, u.length = (ts.headD []).length ∧ TS.Bd 4611686018427387904 u := fun u hu => by
        have q := List.all_eq_true.mp z2 u hu
        simp only [Bool.and_eq_true, decide_eq_true_eq] at q
        refine ⟨q.1, fun m hm => ?_⟩
        have w := List.all_eq_true.mp q.2 m hm
        unfold nn at w
        simp only [Bool.and_eq_true, decide_eq_true_eq] at w
        exact ⟨w.1, by omega⟩
      refine cr_sortT z3 (B := 4611686018427387904) pins s σ H _ us Q I r ⟨p, ws, rfl, h1, by rw [h2.length]; exact z1, fun y hy => ?_, fun ys l q1 q2 q3 => ?_⟩
      · obtain ⟨i, hi⟩ := List.getElem?_of_mem hy
        obtain ⟨d, hd, hdp⟩ := h2.get hi
        rw [List.getElem?_map] at hd
        obtain ⟨u, hu, rfl⟩ := Option.map_eq_some_iff.mp hd
        exact ⟨u, tupI_of sb hdp, z2 u (List.mem_of_getElem? hu)⟩
      · obtain ⟨es, w1, w2⟩ := dp_perm q1 h2
        obtain ⟨us', w3, rfl⟩ := tups_perm w2
        have w4 := dp_pairwise sb w1 q2
        have e : us' = isortT ts := isortT_eq w3 (w4.imp_of_mem fun {a b} ha hb hab => by
          obtain ⟨la, ba⟩ := z2 a (w3.mem_iff.mp ha)
          obtain ⟨lb, bb⟩ := z2 b (w3.mem_iff.mp hb)
          exact lex_code (la.trans lb.symm) ba bb hab)
        subst e
        exact k _ _ _ (.inl rfl) (.inr (.inl ⟨l, _, _, q3, rfl, rfl, rfl, w1⟩))
    · cases g
end
end TI

set_option Elab.async false
set_option autoImplicit false
set_option maxRecDepth 100000
set_option maxHeartbeats 8000000
set_option linter.all false
/-! TI12: slices, turned tuples; places of an item; calls of built-ins. -/
namespace L2
open PySem PySem.Spec PyProof.Rows
section
variable {prog : Program} {w : World} {A : Around} {E : Value → Shared → Prop} {s : Shared}
theorem turned_pick (xs : Array Value) : ((List.range xs.size).filterMap fun (m : Nat) => xs[(((xs.size : Int) - 1) + (m : Int) * (-1)).toNat]?).toArray = xs.toList.reverse.toArray := by
  rw [← PySem.W.krv_pick]
  unfold slicePick
  rw [PySem.W.krv_bounds]
  show _ = ((sliceRange ((xs.size : Int) - 1) (-1) (-1)).filterMap (xs[·]?)).toArray
  rw [PySem.W.krv_sliceRange, List.filterMap_map]
  congr 1
  have step : ∀ (l : List Nat), (∀ m ∈ l, m < xs.size) → l.filterMap (fun (m : Nat) => xs[(((xs.size : Int) - 1) + (m : Int) * (-1)).toNat]?) = l.filterMap ((xs[·]?) ∘ fun k => xs.size - 1 - k) := fun l => by
    induction l with
    | nil => intro _; rfl
    | cons m r ih =>
      intro h
      have hm := h m List.mem_cons_self
      have e : (((xs.size : Int) - 1) + (m : Int) * (-1)).toNat = xs.size - 1 - m := by omega
      rw [List.filterMap_cons, List.filterMap_cons, ih fun k hk => h k (List.mem_cons_of_mem _ hk), e]
      rfl
  exact step _ fun m hm => List.mem_range.mp hm
theorem get_turned {t sl : Addr} {xs : Array Value} {u : Tok} {Q : Value → Shared → Prop} (ht : IsTup s.heap t xs) (hs : s.heap.IsSliceOf sl .none .none (.int (-1) u))
    (q : Q (.ref s.heap.objs.size) { s with heap := s.heap.push { cls := .type "tuple", data := .seq xs.toList.reverse.toArray } }) (z : xs.size ≤ sizeLine) : wpAny (model prog w) A (getItem (.ref t) (.ref sl)) Q E s := by
  have ok : sizeOk (.seq xs.toList.reverse.toArray) := by
    show xs.toList.reverse.toArray.size ≤ sizeLine
    rw [List.size_toArray, List.length_reverse, Array.length_toList]
    exact z
  obtain ⟨os, o1, o2, o3⟩ := id hs
  have ty : s.TypeIs (.ref sl) "slice" := ⟨os, o1, o2⟩
  unfold getItem
  try with_reducible refine wpAny_holding ?_
  first | refine wpAny_bind (wpAny_pure ?_) | skip
  refine wpAny_bind (wpAny_sequenceKey ht.typeIs (by decide) (wpAny_bind (wpAny_callSpecial?_slot (name := Str.ofString "__getitem__") ht.typeIs PyProof.Rows.slot_tuple_getitem (wpAny_call_entry PyProof.Rows.slot_tuple_getitem ht.typeIs entry_tuple_getitem ?_ (args_tuple_getitem _ _)))))
  show wpAny _ _ (Builtin.Tuple.tupleItemsOf (.ref t) >>= _) _ _ s
  refine wpAny_bind (tupleItemsOf_ ht (wpAny_bind (wpAny_typeOf ty ?_)))
  rw [if_pos (by decide)]
  have app : ∀ {R : Int × Int × Nat → Shared → Prop}, R ((xs.size : Int) - 1, -1, xs.size) s → wpAny (model prog w) A.in1 (Builtin.Slice.sliceApplied (.ref sl) (pure (xs.size : Int))) R E s := fun {R} h => by
    unfold Builtin.Slice.sliceApplied Builtin.Slice.sliceFields
    refine wpAny_bind (wpAny_bind (wpAny_field o1 o3 (x := .none) rfl (wpAny_bind (wpAny_field o1 o3 (x := .none) rfl (wpAny_bind (wpAny_field o1 o3 (x := .int (-1) u) rfl (wpAny_pure ?_)))))))
    refine wpAny_bind (slicePart_int ?_)
    show wpAny _ _ (if ((-1 : Int) == 0) = true then _ else _) _ _ s
    rw [if_neg (by decide)]
    refine wpAny_bind (slicePart_none (wpAny_bind (slicePart_none (wpAny_bind (wpAny_pure ?_)))))
    have e1 : Builtin.Slice.sliceAdjust none none (-1) (xs.size : Int) = ((xs.size : Int) - 1, -1) := rfl
    have e2 : Builtin.Slice.slicePlaces ((xs.size : Int) - 1) (-1) (-1) = xs.size := by
      unfold Builtin.Slice.slicePlaces
      rw [if_neg (by decide)]
      by_cases n : (xs.size : Int) - 1 > -1
      · rw [if_pos n, show (- -1 : Int) = 1 by decide, Int.ediv_one]
        omega
      · rw [if_neg n]
        omega
    show wpAny _ _ (match Builtin.Slice.sliceAdjust none none (-1) (xs.size : Int) with | (lo, hi) => pure (lo, (-1 : Int), Builtin.Slice.slicePlaces lo hi (-1))) _ _ s
    rw [e1]
    show wpAny _ _ (pure ((xs.size : Int) - 1, (-1 : Int), Builtin.Slice.slicePlaces ((xs.size : Int) - 1) (-1) (-1))) _ _ s
    rw [e2]
    exact wpAny_pure h
  refine wpAny_bind (app ?_)
  show wpAny _ _ (if (((xs.size : Int) - 1) == 0 && (-1 : Int) == 1 && xs.size == xs.size) = true then _ else _) _ _ s
  rw [if_neg (by rw [show ((-1 : Int) == 1) = false by decide, Bool.and_false, Bool.false_and]; decide), turned_pick]
  first
    | exact wpAny_bind (m := Builtin.Tuple.tupleExact _) (wpAny_newObj_type (wpAny_pure ⟨_, rfl, wpAny_pure q⟩) ok)
    | exact wpAny_bind (m := Builtin.Tuple.tupleExact _) (wpAny_newObj_type (wpAny_bind (wpAny_pure (wpAny_pure ⟨_, rfl, wpAny_pure q⟩))) ok)
    | exact wpAny_bind (wpAny_bind (m := Builtin.Tuple.tupleExact _) (wpAny_newObj_type (wpAny_pure (wpAny_pure ⟨_, rfl, wpAny_pure q⟩)) ok))
    | exact wpAny_bind (wpAny_bind (m := Builtin.Tuple.tupleExact _) (wpAny_newObj_type (wpAny_pure ⟨_, rfl, wpAny_pure q⟩) ok))
end
/-- x[::-1] of a list or a tuple: a new one -/
def tRevA (K : PySem.W.Frag) (te : TE) : TE := fun σ H Q => te σ H fun x H1 => (∃ a xs, x = .ref a ∧ SqL K H1 a xs ∧ ∀ p, H1 p = none → Q (.ref p) (upd H1 p (.lst xs.reverse))) ∨ (∃ a xs, x = .ref a ∧ SqT K H1 a xs ∧ ∀ p, H1 p = none → Q (.ref p) (upd H1 p (.tup xs.reverse)))
section
variable {X : Cx}
theorem pe_revA {e : Expr} {te : TE} {k : Nat} {p1 p2 p3 pos : Pos} (he : PE X e te) : PE X (.Subscript e (.Slice none none (some (.UnaryOp .USub (.Constant (.int 1) k p1) p2)) p3) pos) (tRevA X.K te) := by
  refine ⟨fun pins s σ H Q I h => ?_⟩
  refine Subscript_ (thn (he.run pins s σ H _ I h) fun v s1 ⟨x, H1, I1, r1, q1⟩ => ?_)
  have st : PO X (some (.UnaryOp .USub (.Constant (.int 1) k p1) p2)) (tPart (tUn (rU fun i => .int (-i)) (tC (.int 1)))) := po_some (pe_un un_neg pe_int)
  refine wpAny_Slice (thn (po_none.run pins s1 σ H1 (fun o G => o = none ∧ G = H1) I1 ⟨rfl, rfl⟩) fun vl s2 ⟨l, H2, I2, pl, e1, e2⟩ => ?_)
  subst e1 e2
  refine thn (po_none.run pins s2 σ H2 (fun o G => o = none ∧ G = H2) I2 ⟨rfl, rfl⟩) fun vu s3 ⟨u, H3, I3, pu, e3, e4⟩ => ?_
  subst e3 e4
  refine thn (st.run pins s3 σ H3 (fun o G => o = some (-1) ∧ G = H3) I3 ⟨1, rfl, -1, rfl, rfl, rfl⟩) fun vs s4 ⟨o, H4, I4, ps, e5, e6⟩ => ?_
  subst e5 e6
  have I5 : Inv X pins σ H4 { s4 with heap := s4.heap.push { cls := .type "slice", data := .fields #[vl, vu, vs] } } := I4.kept (t' := s4.toks) fun b ob q => Heap.get?_push_of_some _ q
  rcases q1 with ⟨a, xs, ex, hx, q⟩ | ⟨a, xs, ex, hx, q⟩
  · subst ex
    cases r1
    obtain ⟨its, r, ht, hz⟩ := I5.list hx
    have ln := r.length
    show wpAny (model X.prog X.w) X.A (subscriptTail e (.Slice none none (some (.UnaryOp .USub (.Constant (.int 1) k p1) p2)) p3) (.ref a) (.ref s4.heap.objs.size)) (EP X pins σ Q) X.xe { s4 with heap := s4.heap.push { cls := .type "slice", data := .fields #[vl, vu, vs] } }
    refine tail_any (ops := [.ref a, .ref s4.heap.objs.size]) ht.isList.typeIs (PySem.slot_list_getitem.lookup) ?_ (by with_unfolding_all rfl)
    refine wpAny_getItem_list_slice ht.isList (Heap.IsSliceOf.new _ vl vu vs) pl pu ps (by decide) ?_ (by rw [List.size_toArray]; omega)
    rw [PySem.W.krv_pick]
    exact ⟨.ref _, _, I5.laid (t' := s4.toks) (o := .lst xs.reverse) (fun b ob q => Heap.get?_push_of_some _ q) (Nat.le_refl _) ⟨by rw [List.length_reverse]; exact hz, _, 0, r.reverse, Heap.get?_push_size _ rfl⟩, rfl, q _ (I5.hok.fresh (Nat.le_refl _))⟩
  · subst ex
    cases r1
    obtain ⟨its, r, ht, hz⟩ := I5.tuple hx
    have ln := r.length
    cases pl
    cases pu
    cases ps
    show wpAny (model X.prog X.w) X.A (subscriptTail e (.Slice none none (some (.UnaryOp .USub (.Constant (.int 1) k p1) p2)) p3) (.ref a) (.ref s4.heap.objs.size)) (EP X pins σ Q) X.xe _
    refine tail_any (ops := [.ref a, .ref s4.heap.objs.size]) ht.typeIs (PyProof.Rows.slot_tuple_getitem.lookup) ?_ (by with_unfolding_all rfl)
    refine get_turned ht (Heap.IsSliceOf.new _ _ _ _) ?_ (by rw [List.size_toArray]; omega)
    exact ⟨.ref _, _, I5.laid (t' := s4.toks) (o := .tup xs.reverse) (fun b ob q => Heap.get?_push_of_some _ q) (Nat.le_refl _) ⟨by rw [List.length_reverse]; exact hz, _, r.reverse, IsTup.new _ _⟩, rfl, q _ (I5.hok.fresh (Nat.le_refl _))⟩
/-- t.index(x), flat items -/
def rIndexT (K : PySem.W.Frag) : V → List V → Hp → VK → Prop := fun x xs H Q => ∃ (a : Addr) (ys : List V) (y : V) (j : Nat) (z : V), x = V.ref a ∧ xs = [y] ∧ SqT K H a ys ∧ flatV y = true ∧ ys.all flatV = true ∧ ys[j]? = some z ∧ eqV z y = true ∧
  (∀ (m : Nat) (z' : V), m < j → ys[m]? = some z' → eqV z' y = false) ∧ Q (.int (j : Nat)) H
theorem mt_indexT : MtR X "tuple.index" (rIndexT X.K) := by
  intro pins s σ H x xs v us Q I rx rxs h
  obtain ⟨a, ys, y, j, z, rfl, rfl, hs, fy, fys, hz, hzj, hno, q⟩ := h
  cases rx
  obtain ⟨uy, rfl, ry⟩ := rxs.one
  obtain ⟨its, rv, ⟨⟨c, dd, dt, sl⟩, ho, e1, n, e2⟩, le⟩ := I.tuple hs
  simp only at e1 e2
  subst e1 e2
  have ln := rv.length
  have at_ : ∀ m (hm : m < its.toArray.size), ∃ y', ys[m]? = some y' ∧ RelV y' its.toArray[m] := fun m hm => by
    have hm' : m < ys.length := by rw [List.size_toArray] at hm; omega
    obtain ⟨u, h1, h2⟩ := rv.get (List.getElem?_eq_getElem hm')
    obtain ⟨_, h3⟩ := List.getElem?_eq_some_iff.mp h1
    refine ⟨_, List.getElem?_eq_getElem hm', ?_⟩
    have h4 : its.toArray[m] = u := by simpa using h3
    rw [h4]
    exact h2
  have hj : j < its.toArray.size := by
    have q0 := (List.getElem?_eq_some_iff.mp hz).1
    rw [List.size_toArray]
    omega
  refine call_meets PySem.F.slot_tuple_index ⟨_, ho, rfl⟩ PySem.F.entry_tuple_index (PySem.F.args_tuple_index_2 _ _) (_root_.TI.tuple_indexAt a its.toArray n dd sl uy (eqU y) j hj ?_ fun m hm lt => ?_) ⟨ho, fun u hu => mem_eqAt ry fy rv fys u (by simpa using hu), ⟨.int (j : Nat), H, I.tok _, ⟨_, rfl⟩, q⟩⟩
  · obtain ⟨y', h1, h2⟩ := at_ j hj
    rw [hz] at h1
    cases h1
    rw [eqU_of h2 (flat_at fys hz)]
    exact hzj
  · obtain ⟨y', h1, h2⟩ := at_ m hm
    rw [eqU_of h2 (flat_at fys h1)]
    exact hno m y' lt h1
/-- a tuple whose object is known in full, without a dict -/
def TupX (K : PySem.W.Frag) (x : V) (H : Hp) : Prop := ∃ (a : Addr) (o : Obj) (u : HO) (vs : List V), x = .ref a ∧ H a = some (.frz o u) ∧ o.dict = none ∧ SqT K H a vs
theorem tupX_is {pins : List (Addr × Obj)} {σ : St} {H : Hp} {s : Shared} {x : V} {v : Value} (I : Inv X pins σ H s) (r : RelV x v) (h : TupX X.K x H) : s.TypeIs v "tuple" ∧ ∀ a, v = .ref a → ∃ ob, s.heap.get? a = some ob ∧ ob.dict = none := by
  obtain ⟨a, o, u, vs, rfl, h1, h2, h3⟩ := h
  cases r
  obtain ⟨its, _, ⟨o2, h4, h5, _⟩, _⟩ := I.tuple h3
  have h6 : s.heap.get? a = some o := (I.hok a _ h1).1
  refine ⟨⟨o2, h4, h5⟩, fun b e => ?_⟩
  cases e
  exact ⟨o, h6, h2⟩
/-- a tuple display, its object known -/
def tTupX (t : TA) : TE := fun σ H Q => t σ H fun xs H1 => xs.length ≤ sizeLine ∧ ∀ p o, H1 p = none → o.dict = none → Q (.ref p) (upd H1 p (.frz o (.tup xs)))
theorem pe_tupX {x1 : Nat} {es : List Expr} {t : TA} {pos : Pos} (h : PA X es t) : PE X (.Tuple es x1 pos) (tTupX t) := by
  refine ⟨fun pins s σ H Q I hq => wpAny_Tuple_spliced (thn (h.run pos pins s σ H _ I hq) fun us c ⟨xs, G, J, r, z, q⟩ => ⟨by rw [← r.length]; exact z, ?_⟩)⟩
  have fr : G c.heap.objs.size = none := J.hok.fresh (Nat.le_refl _)
  exact ⟨.ref c.heap.objs.size, _, J.laid (t' := c.toks) (o := .frz { cls := .type "tuple", data := .seq us.toArray } (.tup xs)) (fun b u e => Heap.get?_push_of_some _ e) (Nat.le_refl _) ⟨Heap.get?_push_size _ rfl, z, us, r, ⟨_, Heap.get?_push_size _ rfl, rfl, _, rfl⟩⟩, rfl, q _ _ fr rfl⟩
/-- t * k of such a tuple -/
def rRepX : R2 := fun x y H Q => ∃ a k o xs, x = .ref a ∧ y = .int k ∧ H a = some (.frz o (.tup xs)) ∧ o.dict = none ∧ k < 2 ^ 62 ∧ -(2 ^ 62) ≤ k ∧ xs.length * k.toNat ≤ sizeLine ∧
  ((List.replicate k.toNat xs).flatten = xs → Q (.ref a) H) ∧ ∀ p o', H p = none → o'.dict = none → Q (.ref p) (upd H p (.frz o' (.tup (List.replicate k.toNat xs).flatten)))
theorem op_repX : OpR X (binaryOp .Mult) rRepX := by
  intro pins s σ H x y v u Q I rx ry h
  obtain ⟨a, k, o, xs, rfl, rfl, ha, hd0, k1, k2, hz, q1, q2⟩ := h
  cases rx
  obtain ⟨t, rfl⟩ := ry
  obtain ⟨us, r, ⟨⟨c, dd, dt, sl⟩, ho, hc, n, hd⟩, hs⟩ := I.tuple (.inl (.inr ⟨o, ha⟩))
  simp only at hc hd
  subst hc hd
  have le := r.length
  have c0 : (decide (k < -(2 ^ 63)) || decide (k ≥ 2 ^ 63)) = false := by
    rw [decide_eq_false (by omega), decide_eq_false (by omega)] <;> rfl
  refine wpAny_binaryOp_repeat_ref (T := "tuple") (U := "int") (by decide) ⟨_, ho, rfl⟩ (fun z => typeIs_int z k t) noFill_tuple_mul F.fills_int_mul F.slot_int_rmul repeat_tuple F.slot_int_index.lookup ?_
  refine call_meets F.slot_int_rmul (typeIs_int s k t) F.entry_int_rmul (F.args_int_rmul_2 _ _) (int_rmul_tuple k t a us.toArray n dd sl) ⟨ho, rfl, ⟨_, ho, rfl⟩, ?_⟩
  by_cases z1 : (us.toArray.isEmpty || k == 1) = true
  · refine call_meets F.slot_tuple_mul ⟨_, ho, rfl⟩ F.entry_tuple_mul (F.args_tuple_mul_2 _ _) (_root_.TI.tuple_mulS a us.toArray n dd sl k t c0 z1) ⟨ho, ?_⟩
    refine ⟨.ref a, _, I.tok _, rfl, q1 ?_⟩
    rcases Bool.or_eq_true_iff.mp z1 with z | z
    · have ue : us = [] := by simpa using z
      subst ue
      cases r
      simp
    · have ke : k = 1 := by simpa using z
      subst ke
      simp
  · have z1 : (us.toArray.isEmpty || k == 1) = false := by simpa using z1
    have ne : us.toArray.isEmpty = false := (Bool.or_eq_false_iff.mp z1).1
    have new : ∀ {ws : List Value}, Vals (List.replicate k.toNat xs).flatten ws → (List.replicate k.toNat xs).flatten.length ≤ sizeLine →
        EP X pins σ Q (.ref s.heap.objs.size) { s with heap := s.heap.push { cls := .type "tuple", data := .seq ws.toArray }, toks := s.toks } := fun {ws} rw_ lz =>
      ⟨.ref _, _, I.laid (t' := s.toks) (o := .frz { cls := .type "tuple", data := .seq ws.toArray } (.tup (List.replicate k.toNat xs).flatten)) (fun b o e => Heap.get?_push_of_some _ e) (Nat.le_refl _) ⟨Heap.get?_push_size s.heap rfl, lz, ws, rw_, ⟨_, Heap.get?_push_size s.heap rfl, rfl, 0, rfl⟩⟩, rfl, q2 _ _ (I.hok.fresh (Nat.le_refl _)) rfl⟩
    by_cases z2 : k ≤ 0
    · refine call_meets F.slot_tuple_mul ⟨_, ho, rfl⟩ F.entry_tuple_mul (F.args_tuple_mul_2 _ _) (_root_.TI.tuple_mul0 a us.toArray n dd sl k t c0 z1 (by rw [decide_eq_true z2]; rfl)) ⟨ho, ?_⟩
      have e0 : (List.replicate k.toNat xs).flatten = [] := by rw [show k.toNat = 0 by omega]; rfl
      exact new (ws := []) (by rw [e0]; exact .nil) (by rw [e0]; exact Nat.zero_le _)
    · have fl : (List.replicate k.toNat us).flatten.length ≤ sizeLine := by rw [PyProof.Rows.lm_len_rep_flat, Nat.mul_comm, ← le]; exact hz
      have ik : ((us.toArray.size : Nat) : Int) * k = ((xs.length * k.toNat : Nat) : Int) := by
        rw [List.size_toArray, ← le, Int.natCast_mul, Int.toNat_of_nonneg (by omega)]
      refine call_meets F.slot_tuple_mul ⟨_, ho, rfl⟩ F.entry_tuple_mul (F.args_tuple_mul_2 _ _)
        (tuple_mulW a us.toArray n dd sl k t c0 z1 (by rw [ne, Bool.or_false]; exact decide_eq_false z2) (by rw [ik]; rw [sizeLine_eq] at hz; omega)
          (by unfold Builtin.Tuple.tupleTooMany; rw [ik]; exact decide_eq_false (by omega)) (by rw [size_rep, List.size_toArray]; exact fl)) ⟨ho, ?_⟩
      rw [size_rep]
      exact new (r.rep k.toNat) (by rw [PyProof.Rows.lm_len_rep_flat, Nat.mul_comm]; exact hz)
variable {o e : Expr} {es : List Expr} {to : TE} {t : TA} {name : Str} {apos cpos : Pos} {T1 i1 T2 i2 : String} {r1 r2 : V → List V → Hp → VK → Prop}
/-- o.m(e, ..), o of one of two built-in types -/
def tBM2 (K : PySem.W.Frag) (T1 : String) (ty2 : V → Hp → Prop) (r1 r2 : V → List V → Hp → VK → Prop) (to : TE) (t : TA) : TE := fun σ H Q => to σ H fun x G => (tyV K T1 x G ∧ t σ G fun xs G' => r1 x xs G' Q) ∨ (ty2 x G ∧ t σ G fun xs G' => r2 x xs G' Q)
theorem pe_bm2 (p1 : PlainAttrs T1) (s1 : Slot T1 name i1) (y1 : typeOf (.builtin i1) = pure (.type "method_descriptor")) (m1 : MtR X i1 r1) (p2 : PlainAttrs T2) (s2 : Slot T2 name i2) (y2 : typeOf (.builtin i2) = pure (.type "method_descriptor")) (m2 : MtR X i2 r2)
    {ty2 : V → Hp → Prop} (is2 : ∀ {pins : List (Addr × Obj)} {σ : St} {H : Hp} {s : Shared} {x : V} {v : Value}, Inv X pins σ H s → RelV x v → ty2 x H → s.TypeIs v T2 ∧ ∀ a, v = .ref a → ∃ ob, s.heap.get? a = some ob ∧ ob.dict = none)
    (ho : PE X o to) (ha : PA X (e :: es) t) (hb : attributeBase o name X.env (eval o X.env) = eval o X.env)
    (few : ((backTo cpos (starEach (e :: es) X.env)).all (fun x => !x.1) && (backToKw cpos (keywordEach [] X.env)).all (fun x => x.1.isSome) && decide ((e :: es).length + ([] : List Keyword).length + (if ([] : List Keyword).isEmpty then 0 else 1) < 30)) = true)
    (line : (apos.endLine == cpos.line) = true) (st : starEach (e :: es) X.env = (false, eval e X.env) :: starEach es X.env) (pl : (backTo cpos (starEach es X.env)).any (·.1) = false) :
    PE X (.Call (.Attribute o name apos) (e :: es) [] cpos) (tBM2 X.K T1 ty2 r1 r2 to t) := by
  refine ⟨fun pins s σ H Q I h => wpAny_Call_method_late hb few line rfl (thn (ho.run pins s σ H _ I h) fun v c ⟨x, G, J, rv, q⟩ => ?_)⟩
  rcases q with ⟨ty, q⟩ | ⟨ty, q⟩
  · obtain ⟨a1, a2⟩ := tyV_is J rv ty
    refine ⟨T1, i1, p1, s1, y1, a1, a2, ?_⟩
    have run := ha.run cpos pins c σ G _ J q
    rw [st] at run ⊢
    refine Calls.callWith_builtin (by show (false || (backTo cpos (starEach es X.env)).any (·.1)) = false; rw [pl] <;> rfl) (Calls.evalArgs_plain ?_)
    exact thn run fun us c2 ⟨vs, G2, J2, rw2, q2⟩ => m1 pins c2 σ G2 x vs v us Q J2 rv rw2 q2
  · obtain ⟨a1, a2⟩ := is2 J rv ty
    refine ⟨T2, i2, p2, s2, y2, a1, a2, ?_⟩
    have run := ha.run cpos pins c σ G _ J q
    rw [st] at run ⊢
    refine Calls.callWith_builtin (by show (false || (backTo cpos (starEach es X.env)).any (·.1)) = false; rw [pl] <;> rfl) (Calls.evalArgs_plain ?_)
    exact thn run fun us c2 ⟨vs, G2, J2, rw2, q2⟩ => m2 pins c2 σ G2 x vs v us Q J2 rv rw2 q2
end
end L2

set_option Elab.async false
set_option autoImplicit false
set_option maxRecDepth 100000
set_option maxHeartbeats 8000000
set_option linter.all false
/-! TI13: built-ins, methods, slices run as their trees say. -/
namespace TI
open PySem PySem.Spec PyProof.Rows L2
section
variable {w : Nm}
theorem prg_A {X : Cx} {a : Expr} {t : TA} {p pos : Pos} (hg : Gl X "range") (hm : X.mg "range" = none) (ha : PA X [a] t) (na : starEach [a] X.env = (false, eval a X.env) :: starEach [] X.env) :
    PRg X (.Call (.Name "range" p) [a] [] pos) (fun σ H R => t σ H fun vs H1 => ∃ n, vs = [.int n] ∧ R 0 n H1) := by
  intro pins s σ H Q I h
  refine wpAny_Call_Name_kw (ld_blt I hg hm PyProof.Rows.boot_range ?_)
  refine PyProof.Rows.callWith_type1 (thn (ha.run pos pins s σ H _ I h) fun us s1 ⟨vs, H1, I1, r1, n, e, q⟩ => ?_) na rfl
  subst e
  obtain ⟨u, rfl, t, rfl⟩ := r1.one
  exact call_range_1 ⟨_, 0, n, _, _, _, H1, rfl, IsRange.new _ _ _ _ _ _ _, I1.kept fun b u e => Heap.get?_push_of_some _ e, q⟩
theorem rgV_dp {K : PySem.W.Frag} {F : Hp} : ∀ (n : Nat) (lo : Int), DpAll K F ((List.range n).map fun i => V.int (lo + (i : Nat))) (rangeL lo n)
  | 0, _ => .nil
  | n + 1, lo => by
    rw [List.range_succ_eq_map, List.map_cons, List.map_map]
    refine .cons (by rw [show lo + ((0 : Nat) : Int) = lo by omega]; exact .int lo) ?_
    have := rgV_dp (K := K) (F := F) n (lo + 1)
    have e : ((fun i : Nat => V.int (lo + (i : Nat))) ∘ Nat.succ) = fun i : Nat => V.int (lo + 1 + (i : Nat)) := by
      funext i
      show V.int (lo + ((i + 1 : Nat) : Int)) = _
      rw [show lo + ((i + 1 : Nat) : Int) = lo + 1 + (i : Nat) by omega]
    rw [e]
    exact this
theorem rangeL_len : ∀ (n : Nat) (lo : Int), (rangeL lo n).length = n
  | 0, _ => rfl
  | n + 1, lo => by rw [rangeL, List.length_cons, rangeL_len n]
theorem biOp_new {b : BI} {ds : List D} {x : D × Fl} (h : biOp b ds = some x) : x.2 = newF x.1 := by
  unfold biOp at h
  split at h
  all_goals (repeat' (split at h))
  all_goals first
    | (cases h; rfl; done)
    | (cases h; done)
    | (obtain ⟨_, _, rfl⟩ := Option.map_eq_some_iff.mp h; rfl; done)
    | (obtain ⟨_, _, h⟩ := Option.bind_eq_some_iff.mp h; obtain ⟨_, _, rfl⟩ := Option.map_eq_some_iff.mp h; rfl; done)
    | (obtain ⟨_, _, h⟩ := Option.bind_eq_some_iff.mp h; split at h <;> first | (cases h; rfl; done) | (cases h; done))
theorem pe_weakT {X : Cx} {x : Expr} {t t' : TE} (h : PE X x t) (i : ∀ σ H Q, t' σ H Q → t σ H Q) : PE X x t' := ⟨fun pins s σ H Q I q => h.run pins s σ H Q I (i σ H Q q)⟩
theorem one_of {xs : List Expr} {n : Nat} (h : xs.length = n) (p : 0 < n) : ∃ x r, xs = x :: r := by
  cases xs with
  | nil => simp at h; omega
  | cons x r => exact ⟨x, r, rfl⟩
/-- a built-in's call -/
theorem pe_bi {T : List (Addr × Str)} {cls : Nat → Addr} {W : WX} {Φ : Fun} {C : List D} {n : Nat} {X : Cx} (c : Ctx w T cls W Φ C n X) (b : BI) {es : IE} (hs : SndS w es) (x : Expr) (hx : chkE w X.N X.env.scope (.bi b es) x = true) :
    PE X x (tCB (rBi X.K (biOp b)) (tB X.K T cls W Φ C es)) := by
  cases x <;> first | exact (Bool.false_ne_true hx).elim | skip
  rename_i g xs ks pos
  cases g <;> first | exact (Bool.false_ne_true hx).elim | skip
  cases ks <;> first | exact (Bool.false_ne_true hx).elim | skip
  rename_i f p
  have hx : (decide (f = biA b) && glB X.env.scope f && xs.all plainX && _) = true := hx
  rw [Bool.and_eq_true, Bool.and_eq_true, Bool.and_eq_true] at hx
  obtain ⟨⟨⟨h1, h2⟩, h3⟩, h4⟩ := hx
  have h1 := of_decide_eq_true h1
  subst h1
  obtain ⟨g1, g2⟩ := glB_ok h2
  have calm := c.calm
  have r5 : Room 5 X.A := c.room.mono (Nat.le_add_left _ _)
  have plain : ∀ (b : BI), (chkS w X.N X.env.scope es xs && decide (xs.length = biN b)) = true → 0 < biN b → ∃ x0 xr, xs = x0 :: xr ∧ PA X (x0 :: xr) (tB X.K T cls W Φ C es) ∧ starEach (x0 :: xr) X.env = (false, eval x0 X.env) :: starEach xr X.env ∧ (backTo pos (starEach xr X.env)).any (·.1) = false := fun b h hp => by
    obtain ⟨z1, z2⟩ := Bool.and_eq_true_iff.mp h
    obtain ⟨x0, xr, rfl⟩ := one_of (of_decide_eq_true z2) hp
    have h3' := h3
    rw [List.all_cons, Bool.and_eq_true] at h3'
    exact ⟨x0, xr, rfl, hs.b c _ z1 h3, star_cons h3'.1, back_plain h3'.2⟩
  cases b with
  | len =>
    obtain ⟨x0, xr, rfl, k1, k2, k3⟩ := plain .len h4 (by decide)
    exact pe_callB bi_len g1 (c.free _ (by decide)) PySem.boot_len k1 (by decide) (by decide) k2 k3
  | sum =>
    obtain ⟨x0, xr, rfl, k1, k2, k3⟩ := plain .sum h4 (by decide)
    exact pe_callB (bi_sum calm) g1 (c.free _ (by decide)) PyProof.Rows.boot_sum k1 (by decide) (by decide) k2 k3
  | max1 =>
    obtain ⟨x0, xr, rfl, k1, k2, k3⟩ := plain .max1 h4 (by decide)
    exact pe_callB (bi_max1 calm r5) g1 (c.free _ (by decide)) PyProof.Rows.boot_max k1 (by decide) (by decide) k2 k3
  | max2 =>
    obtain ⟨x0, xr, rfl, k1, k2, k3⟩ := plain .max2 h4 (by decide)
    exact pe_callB (bi_max2 calm) g1 (c.free _ (by decide)) PyProof.Rows.boot_max k1 (by decide) (by decide) k2 k3
  | max3 =>
    obtain ⟨x0, xr, rfl, k1, k2, k3⟩ := plain .max3 h4 (by decide)
    exact pe_callB (bi_max3 calm) g1 (c.free _ (by decide)) PyProof.Rows.boot_max k1 (by decide) (by decide) k2 k3
  | min2 =>
    obtain ⟨x0, xr, rfl, k1, k2, k3⟩ := plain .min2 h4 (by decide)
    exact pe_callB (bi_min2 calm) g1 (c.free _ (by decide)) PyProof.Rows.boot_min k1 (by decide) (by decide) k2 k3
  | int1 =>
    obtain ⟨x0, xr, rfl, k1, k2, k3⟩ := plain .int1 h4 (by decide)
    exact pe_callTy bi_int1 g1 (c.free _ (by decide)) PyProof.Rows.boot_int k1 (by decide) (by decide) k2 k3
  | tuple1 =>
    obtain ⟨x0, xr, rfl, k1, k2, k3⟩ := plain .tuple1 h4 (by decide)
    exact pe_callTy bi_tuple1 g1 (c.free _ (by decide)) PyProof.Rows.boot_tuple k1 (by decide) (by decide) k2 k3
  | list1 =>
    obtain ⟨x0, xr, rfl, k1, k2, k3⟩ := plain .list1 h4 (by decide)
    exact pe_callTy bi_list1 g1 (c.free _ (by decide)) PyProof.Rows.boot_list k1 (by decide) (by decide) k2 k3
  | sorted1 =>
    obtain ⟨x0, xr, rfl, k1, k2, k3⟩ := plain .sorted1 h4 (by decide)
    exact pe_callB (bi_sorted1 calm) g1 (c.free _ (by decide)) PyProof.Rows.boot_sorted k1 (by decide) (by decide) k2 k3
  | all1 =>
    obtain ⟨x0, xr, rfl, k1, k2, k3⟩ := plain .all1 h4 (by decide)
    exact pe_callB (bi_all1 calm) g1 (c.free _ (by decide)) PyProof.Rows.boot_all k1 (by decide) (by decide) k2 k3
  | gcd =>
    obtain ⟨x0, xr, rfl, k1, k2, k3⟩ := plain .gcd h4 (by decide)
    exact pe_callBfun bi_gcd g1 c.gcd k1 (by decide) k2 k3
  | sortedset =>
    match xs, h3, h4 with
    | [.Call (.Name y py) ys [] py2], h3, h4 =>
      have h4 : (decide (y = ("set" : Str)) && glB X.env.scope y && chkS w X.N X.env.scope es ys && ys.all plainX && decide (ys.length = 1)) = true := h4
      simp only [Bool.and_eq_true, decide_eq_true_eq] at h4
      obtain ⟨⟨⟨⟨z1, z2⟩, z3⟩, z4⟩, z5⟩ := h4
      subst z1
      obtain ⟨u1, u2⟩ := glB_ok z2
      obtain ⟨y0, yr, rfl⟩ := one_of z5 (by decide)
      have z4' := z4
      rw [List.all_cons, Bool.and_eq_true] at z4'
      have S := pe_callTy (p := py) (pos := py2) (cr_setL1 calm) u1 (c.free _ (by decide)) PyProof.Rows.boot_set (hs.b c _ z3 z4) (by decide) (by decide) (star_cons z4'.1) (back_plain z4'.2)
      refine pe_weakT (pe_callB (p := p) (pos := pos) (cr_sortedSet calm) g1 (c.free _ (by decide)) PyProof.Rows.boot_sorted (pa_cons S pa_nil (star_cons rfl)) (by decide) (by decide) (star_cons rfl) rfl) fun σ H Q h => ?_
      obtain ⟨e, F, g, h⟩ := h
      refine ⟨e, F, g, good_impL h ?_⟩
      rintro vs H1 ⟨F1, ds, x, sb, t, gd, k⟩
      unfold biOp at gd
      split at gd <;> first | (rename_i z _; cases z; done) | (rename_i z; cases z; done) | (cases gd; done) | skip
      obtain ⟨v, rfl, a⟩ := t.one
      obtain ⟨ns, hn, gd⟩ := Option.bind_eq_some_iff.mp gd
      split at gd
      · rename_i lt
        cases gd
        obtain ⟨pp, us, rfl, q1, q2⟩ := a.lst sb
        rw [q2.nums hn] at q1
        refine ⟨pp, ns, rfl, q1, by unfold scanBound; omega, fun q c' hq le => ⟨q, _, c', rfl, upd_same, by omega, fun ms l m1 m2 _ hl => ?_⟩⟩
        have em : ms = usort ns := asc_unique m1 (usort_asc ns) fun k => by rw [m2 k, usort_mem]; exact decide_eq_true_iff
        subst em
        exact k _ _ _ (.inr ⟨q, _, hq, rfl⟩) (.inr (.inl ⟨l, _, _, hl, rfl, rfl, rfl, DpAll.ints⟩))
      · cases gd
  | listR =>
    match xs, h3, h4 with
    | [.Call (.Name y py) ys [] py2], h3, h4 =>
      have h4 : (decide (y = ("range" : Str)) && glB X.env.scope y && chkS w X.N X.env.scope es ys && ys.all plainX && decide (ys.length = 1)) = true := h4
      simp only [Bool.and_eq_true, decide_eq_true_eq] at h4
      obtain ⟨⟨⟨⟨z1, z2⟩, z3⟩, z4⟩, z5⟩ := h4
      subst z1
      obtain ⟨u1, u2⟩ := glB_ok z2
      match ys, z5, z3, z4 with
      | [y0], _, z3, z4 =>
      have z4' := z4
      rw [List.all_cons, Bool.and_eq_true] at z4'
      refine pe_weakT (pe_listRg (p := p) (pos := pos) calm g1 (c.free _ (by decide)) (prg_A (p := py) (pos := py2) u1 (c.free _ (by decide)) (hs.b c _ z3 z4) (star_cons z4'.1)) (star_cons rfl)) fun σ H Q h => ?_
      obtain ⟨e, F, g, h⟩ := h
      refine ⟨e, F, g, good_impL h ?_⟩
      rintro vs H1 ⟨F1, ds, x, sb, t, gd, k⟩
      unfold biOp at gd
      split at gd <;> first | (rename_i z _; cases z; done) | (rename_i z; cases z; done) | (cases gd; done) | skip
      obtain ⟨v, rfl, a⟩ := t.one
      cases a.int
      split at gd
      · rename_i n _ hz
        cases gd
        obtain ⟨r1, r2⟩ := inR_ok hz.1
        have hl : n.toNat ≤ 2 ^ 24 := by have := hz.2; unfold lim at this; omega
        refine ⟨n, rfl, ⟨by omega, by omega, r1, r2, by rw [Int.sub_zero]; exact hl⟩, fun q hq => k _ _ _ (.inl rfl) (.inr (.inl ⟨q, _, _, hq, rfl, rfl, rfl, ?_⟩))⟩
        have := rgV_dp (K := X.K) (F := F1) (n - 0).toNat 0
        rw [Int.sub_zero] at this
        unfold rgV
        rw [Int.sub_zero]
        exact this
      · cases gd
  | tupleR =>
    match xs, h3, h4 with
    | [.Call (.Name y py) ys [] py2], h3, h4 =>
      have h4 : (decide (y = ("range" : Str)) && glB X.env.scope y && chkS w X.N X.env.scope es ys && ys.all plainX && decide (ys.length = 1)) = true := h4
      simp only [Bool.and_eq_true, decide_eq_true_eq] at h4
      obtain ⟨⟨⟨⟨z1, z2⟩, z3⟩, z4⟩, z5⟩ := h4
      subst z1
      obtain ⟨u1, u2⟩ := glB_ok z2
      match ys, z5, z3, z4 with
      | [y0], _, z3, z4 =>
      have z4' := z4
      rw [List.all_cons, Bool.and_eq_true] at z4'
      refine pe_weakT (pe_tupRg (p := p) (pos := pos) calm g1 (c.free _ (by decide)) (prg_A (p := py) (pos := py2) u1 (c.free _ (by decide)) (hs.b c _ z3 z4) (star_cons z4'.1)) (star_cons rfl)) fun σ H Q h => ?_
      obtain ⟨e, F, g, h⟩ := h
      refine ⟨e, F, g, good_impL h ?_⟩
      rintro vs H1 ⟨F1, ds, x, sb, t, gd, k⟩
      unfold biOp at gd
      split at gd <;> first | (rename_i z _; cases z; done) | (rename_i z; cases z; done) | (cases gd; done) | skip
      obtain ⟨v, rfl, a⟩ := t.one
      cases a.int
      split at gd
      · rename_i n _ hz
        cases gd
        obtain ⟨r1, r2⟩ := inR_ok hz.1
        have hl : n.toNat ≤ 2 ^ 24 := by have := hz.2; unfold lim at this; omega
        refine ⟨n, rfl, ⟨by omega, by omega, r1, r2, by rw [Int.sub_zero]; exact hl⟩, fun q hq => k _ _ _ (.inl rfl) (.inr (.inr ⟨q, _, _, hq, rfl, rfl, rfl, ?_⟩))⟩
        have := rgV_dp (K := X.K) (F := F1) (n - 0).toNat 0
        rw [Int.sub_zero] at this
        unfold rgV
        rw [Int.sub_zero]
        exact this
      · cases gd

theorem snd_bi (b : BI) {es : IE} (hs : SndS w es) : Snd w (.bi b es) := by
  have E : ∀ {T : List (Addr × Str)} {cls : Nat → Addr} {W : WX} {Φ : Fun} {C : List D} {n : Nat} {X : Cx} (c : Ctx w T cls W Φ C n X) (x : Expr), chkE w X.N X.env.scope (.bi b es) x = true → PE X x (tE X.K T cls W Φ C .v (.bi b es)) := by
    intro T cls W Φ C n X c x hx
    refine pe_weakT (pe_bi c b hs x hx) fun σ H Q h => ?_
    obtain ⟨e, F, g, h⟩ := h
    unfold evalE at h
    refine ⟨e, F, g, good_impL (good_outL (q1 := pure es) (Step.refl g) (outH_E h)) ?_⟩
    rintro vs H1 ⟨ds, e1, F1, hr, s1, r1, q1, h1⟩
    cases gd : biOp b ds with
    | none => simp only [gd] at h1; exact h1.elim
    | some y =>
      simp only [gd] at h1
      refine ⟨F1, ds, y, s1.agr.sub, r1, gd, fun H0 v H' wd m => ?_⟩
      have s0 : Step X.K T e σ F H e1 σ F1 H0 := by
        rcases wd with rfl | ⟨q, o, hq, rfl⟩
        · exact s1
        · exact s1.new hq
      have q0 : Quiet H1 H0 := by
        rcases wd with rfl | ⟨q, o, hq, rfl⟩
        · exact Quiet.refl _
        · exact quiet_upd hq
      obtain ⟨F2, s2, r2, sm⟩ := made_good s0 m
      rw [← biOp_new gd] at r2
      exact h1 F2 H' v s2 r2 fun q => ((q1 q).trans q0).trans (Quiet.of sm)
  refine ⟨fun c x hx => E c x hx, fun c x hx _ => pt_gen (E c x hx) ?_ fun _ => rfl⟩
  cases x <;> first | exact (Bool.false_ne_true hx).elim | rfl
theorem snd_rev {a : IE} (ha : Snd w a) : Snd w (.rev a) := by
  have E : ∀ {T : List (Addr × Str)} {cls : Nat → Addr} {W : WX} {Φ : Fun} {C : List D} {n : Nat} {X : Cx} (c : Ctx w T cls W Φ C n X) (x : Expr), chkE w X.N X.env.scope (.rev a) x = true → PE X x (tE X.K T cls W Φ C .v (.rev a)) ∧ testX x = true := by
    intro T cls W Φ C n X c x hx
    cases x <;> first | exact (Bool.false_ne_true hx).elim | skip
    rename_i l sl p
    have hx : (match (generalizing := false) sl with
      | .Slice none none (some (.UnaryOp .USub (.Constant (.int 1) _ _) _)) _ => chkE w X.N X.env.scope a l
      | _ => false) = true := hx
    split at hx <;> first | (cases hx; done) | skip
    refine ⟨pe_weakT (pe_revA (ha.e c l hx)) fun σ H Q h => ?_, rfl⟩
    obtain ⟨e, F, g, h⟩ := h
    unfold evalE at h
    refine ⟨e, F, g, good_imp (good_out (q1 := pure a) (Step.refl g) (outH_E h)) id ?_⟩
    rintro v H1 ⟨x, e1, F1, hr, s1, r1, q1, h1⟩
    obtain ⟨d, f⟩ := x
    cases d <;> first | exact h1.elim | skip
    · obtain ⟨b, vs, rfl, q2, q3⟩ := r1.top.lst s1.agr.sub
      refine .inl ⟨b, vs, rfl, q2, fun p hp => ?_⟩
      obtain ⟨F2, s2, r2, sm⟩ := made_good s1 (.inr (.inl ⟨p, _, _, hp, rfl, rfl, rfl, q3.reverse⟩) : Made X.K F1 H1 (.list _) (.ref p) _)
      exact h1 F2 _ _ s2 r2 fun q => (q1 q).trans (Quiet.of sm)
    · obtain ⟨b, vs, rfl, q2, q3⟩ := r1.top.tup s1.agr.sub
      refine .inr ⟨b, vs, rfl, q2, fun p hp => ?_⟩
      obtain ⟨F2, s2, r2, sm⟩ := made_good s1 (.inr (.inr ⟨p, _, _, hp, rfl, rfl, rfl, q3.reverse⟩) : Made X.K F1 H1 (.tuple _) (.ref p) _)
      exact h1 F2 _ _ s2 r2 fun q => (q1 q).trans (Quiet.of sm)
  exact ⟨fun c x hx => (E c x hx).1, fun c x hx _ => pt_gen (E c x hx).1 (E c x hx).2 fun _ => rfl⟩
theorem snd_tmul {es k : IE} (hs : SndS w es) (hk : Snd w k) : Snd w (.tmul es k) := by
  have E : ∀ {T : List (Addr × Str)} {cls : Nat → Addr} {W : WX} {Φ : Fun} {C : List D} {n : Nat} {X : Cx} (c : Ctx w T cls W Φ C n X) (x : Expr), chkE w X.N X.env.scope (.tmul es k) x = true → PE X x (tE X.K T cls W Φ C .v (.tmul es k)) ∧ testX x = true := by
    intro T cls W Φ C n X c x hx
    cases x <;> first | exact (Bool.false_ne_true hx).elim | skip
    rename_i l op r p
    cases l <;> first | exact (Bool.false_ne_true hx).elim | skip
    rename_i xs k1 p1
    have hx : (decide (op = .Mult) && chkS w X.N X.env.scope es xs && xs.all plainX && chkE w X.N X.env.scope k r) = true := hx
    simp only [Bool.and_eq_true, decide_eq_true_eq] at hx
    obtain ⟨⟨⟨rfl, z1⟩, z2⟩, z3⟩ := hx
    refine ⟨pe_weakT (pe_op (pos := p) op_repX (pe_tupX (x1 := k1) (pos := p1) (hs.k c xs z1 z2)) (hk.e c r z3)) fun σ H Q h => ?_, rfl⟩
    obtain ⟨e, F, g, h⟩ := h
    unfold evalE at h
    refine ⟨e, F, g, good_impL (good_outL (q1 := pure es) (Step.refl g) (outH_E h)) ?_⟩
    rintro vs H1 ⟨ds, e1, F1, hr, s1, r1, q1, h1⟩
    have h1 : GoodE X.K T cls W (pure es && pure k) (if ds.length ≤ lim then (evalE Φ C k .v e1).bind fun x e2 => (match x.1 with
      | .int n => if inR n = true ∧ ds.length * n.toNat ≤ lim then Out.ok (.tuple (List.replicate n.toNat ds).flatten, .xt) e2 else .stuck
      | _ => .stuck) else .stuck) e σ F H Q := h1
    split at h1
    · rename_i lz
      refine ⟨by rw [r1.length, ← lim_eq]; exact lz, fun p o hp ho => ?_⟩
      have s2 := s1.newKnown (o := .frz o (.tup vs)) hp (by intro ps z; cases z)
      have ff1 : Same F1 (upd F1 p (.frz o (.tup vs))) := same_upd (s1.agr.sub.free hp)
      refine ⟨e1, _, s2.agr, good_imp (good_out (q1 := pure k) s2 (outH_E h1)) id ?_⟩
      rintro v2 H3 ⟨y, e2, F3, hr3, s3, r3, q3, h3⟩
      obtain ⟨d, f⟩ := y
      cases d <;> first | exact h3.elim | skip
      rename_i m
      have h3 : GoodE X.K T cls W (pure es && pure k) (if inR m = true ∧ ds.length * m.toNat ≤ lim then Out.ok (.tuple (List.replicate m.toNat ds).flatten, .xt) e2 else .stuck) e σ F H Q := h3
      split at h3
      · rename_i hz
        obtain ⟨i1, i2⟩ := inR_ok hz.1
        cases r3.top.int
        have at3 : F3 p = some (.frz o (.tup vs)) := s3.ff _ _ upd_same
        have dr := DpAll.mono s3.ff (DpAll.mono ff1 (r1.rep m.toNat))
        have qq : (pure es && pure k) = true → Quiet H H3 := fun q => by
          obtain ⟨w1, w2⟩ := Bool.and_eq_true_iff.mp q
          exact ((q1 w1).trans (quiet_upd hp)).trans (q3 w2)
        refine ⟨p, m, o, vs, rfl, rfl, s3.agr.sub _ _ at3, ho, i2, i1, by rw [r1.length, ← lim_eq]; exact hz.2, fun eq => ?_, fun p' o' hp' ho' => ?_⟩
        · rw [eq] at dr
          exact h3 F3 H3 _ (s2.trans s3) ⟨.tup (.inl (.inr ⟨o, at3⟩)) dr, p, o, _, rfl, at3, ho⟩ qq
        · have s4 := (s2.trans s3).newKnown (o := .frz o' (.tup (List.replicate m.toNat vs).flatten)) hp' (by intro ps z; cases z)
          exact h3 _ _ _ s4 ⟨.tup (.inl (.inr ⟨o', upd_same⟩)) (DpAll.mono (same_upd (s3.agr.sub.free hp')) dr), p', o', _, rfl, upd_same, ho'⟩ fun q => (qq q).trans (quiet_upd hp')
      · exact h3.elim
    · exact h1.elim
  exact ⟨fun c x hx => (E c x hx).1, fun c x hx _ => pt_gen (E c x hx).1 (E c x hx).2 fun _ => rfl⟩
end
end TI

set_option Elab.async false
set_option autoImplicit false
set_option maxRecDepth 100000
set_option maxHeartbeats 8000000
set_option linter.all false
/-! TI14: methods, slices, isinstance run as their trees say. -/
namespace TI
open PySem PySem.Spec PyProof.Rows L2
section
variable {K : PySem.W.Frag} {F H : Hp} {v : V} {d : D}
/-- a built-in type's name of a tree -/
def tyOf : D → String
  | .none => "NoneType" | .bool _ => "bool" | .int _ => "int" | .str _ => "str" | .list _ => "list" | .tuple _ => "tuple" | .dict _ => "dict"
theorem top_ty (h : Top K F H v d) (sb : Same F H) (nd : isDict d = false) : TyX K H v (.type (tyOf d)) := by
  cases d with
  | none => cases h.none; exact .base .non
  | bool b => cases h.bool; exact .base (.bl b)
  | int i => cases h.int; exact .base (.int i)
  | str x => cases h.str; exact .base (.str x)
  | list xs =>
    obtain ⟨a, vs, rfl, q, _⟩ := h.lst sb
    rcases q with (q | ⟨o, q⟩) | ⟨o, its, n, q1, q2, _⟩
    · exact .base (.lst q)
    · exact .base (.frz q)
    · exact .kList q1 q2
  | tuple xs =>
    obtain ⟨a, vs, rfl, q, _⟩ := h.tup sb
    rcases q with (q | ⟨o, q⟩) | ⟨o, its, n, q1, q2, _⟩
    · exact .base (.tup q)
    · exact .fTuple q
    · exact .kTuple q1 q2
  | dict kvs => cases nd
theorem kit_one (K : PySem.W.Frag) (d : D) (nd : isDict d = false) (ty : TyN) : PySem.W.kitOne K (.type (tyOf d)) (.type (tyA ty).toString) = some (isTy ty d) := by
  cases d <;> first | (cases nd; done) | (cases ty <;> kernel_rfl)
end
theorem sIx_cut (n d : Nat) (o : Option Int) : HT.sIx n d o = cutAt n d o := by
  cases o with
  | none => rfl
  | some v =>
    show (if v < 0 then (v + (n : Int)).toNat else min v.toNat n) = if v < 0 then (max (v + (n : Int)) 0).toNat else min v.toNat n
    split <;> omega
theorem cut_dp {K : PySem.W.Frag} {F : Hp} {vs : List V} {xs : List D} (h : DpAll K F vs xs) (lo hi : Option Int) : DpAll K F (cutV vs lo hi) (cut xs lo hi) := by
  unfold cutV cut
  rw [sIx_cut, sIx_cut, h.length]
  exact (h.drop _).take _
theorem findEq_at : ∀ {xs : List D} {x : D} {j : Nat}, findEq x xs = some j → (∃ z, xs[j]? = some z ∧ PyData.eqv z x = true) ∧ ∀ m z, m < j → xs[m]? = some z → PyData.eqv z x = false := by
  intro xs x j h
  obtain ⟨h1, h2, h3⟩ := List.findIdx?_eq_some_iff_getElem.mp h
  refine ⟨⟨xs[j], List.getElem?_eq_getElem h1, h2⟩, fun m z lt hz => ?_⟩
  obtain ⟨h4, rfl⟩ := List.getElem?_eq_some_iff.mp hz
  simpa using h3 m lt
section
variable {w : Nm}
/-- one end of a slice -/
theorem po_of {T : List (Addr × Str)} {cls : Nat → Addr} {W : WX} {Φ : Fun} {C : List D} {n : Nat} {X : Cx} (c : Ctx w T cls W Φ C n X) {a : IE} (ha : isNil a = false → Snd w a) {l : Option Expr}
    (h : (match (generalizing := false) l with | none => isNil a | some y => !isNil a && chkE w X.N X.env.scope a y) = true) :
    ∃ tl, PO X l tl ∧ ∀ {q : Bool} {e e1 : En} {σ : L2.St} {F F1 H H1 : Hp} {Z : Option Int → En → Prop} {Q : Option Int → Hp → Prop}, Step X.K T e σ F H e1 σ F1 H1 → OutH X.K T cls W e σ F H (optE a (evalE Φ C a .v e1) e1) Z →
      (∀ o e2 F2 H2, Step X.K T e1 σ F1 H1 e2 σ F2 H2 → (pure a = true → Quiet H1 H2) → Z o e2 → Q o H2) → tl σ H1 Q := by
  cases l with
  | none =>
    have hn : isNil a = true := h
    refine ⟨tNoPart, po_none, fun {q e e1 σ F F1 H H1 Z Q} s z k => ?_⟩
    cases a <;> first | (cases hn; done) | skip
    exact k none e1 F1 H1 (Step.refl s.agr) (fun _ => Quiet.refl _) z
  | some y =>
    obtain ⟨h1, h2⟩ := Bool.and_eq_true_iff.mp h
    have h1 : isNil a = false := by simpa using h1
    refine ⟨_, po_some ((ha h1).e c y h2), fun {q e e1 σ F F1 H H1 Z Q} s z k => ?_⟩
    have eq : optE a (evalE Φ C a .v e1) e1 = (evalE Φ C a .v e1).bind fun x e2 => match x.1 with | .int i => .ok (some i) e2 | _ => .stuck := by
      cases a <;> first | (cases h1; done) | rfl
    rw [eq] at z
    have z' : OutH X.K T cls W e σ F H (evalE Φ C a .v e1) fun x e2 => OutH X.K T cls W e σ F H (match x.1 with | .int i => Out.ok (some i) e2 | _ => .stuck) Z := by
      cases r : evalE Φ C a .v e1 <;> (rw [r] at z; exact z)
    refine ⟨e1, F1, s.agr, good_imp (good_out (q1 := pure a) s z') id ?_⟩
    rintro v H2 ⟨x, e2, F2, hr, s2, r2, q2, h3⟩
    obtain ⟨d, f⟩ := x
    cases d <;> first | exact h3.elim | skip
    rename_i i
    cases r2.top.int
    exact ⟨i, rfl, k (some i) e2 F2 H2 s2 q2 h3⟩
theorem snd_slice {a lo hi : IE} (ha : Snd w a) (hl : isNil lo = false → Snd w lo) (hh : isNil hi = false → Snd w hi) : Snd w (.slice a lo hi) := by
  have E : ∀ {T : List (Addr × Str)} {cls : Nat → Addr} {W : WX} {Φ : Fun} {C : List D} {n : Nat} {X : Cx} (c : Ctx w T cls W Φ C n X) (x : Expr), chkE w X.N X.env.scope (.slice a lo hi) x = true → PE X x (tE X.K T cls W Φ C .v (.slice a lo hi)) ∧ testX x = true := by
    intro T cls W Φ C n X c x hx
    cases x <;> first | exact (Bool.false_ne_true hx).elim | skip
    rename_i x s p
    cases s <;> first | exact (Bool.false_ne_true hx).elim | skip
    rename_i l h st p2
    cases st with
    | some _ => exact (Bool.false_ne_true hx).elim
    | none =>
    have hx : (chkE w X.N X.env.scope a x && (match (generalizing := false) l with | none => isNil lo | some y => !isNil lo && chkE w X.N X.env.scope lo y) && (match (generalizing := false) h with | none => isNil hi | some y => !isNil hi && chkE w X.N X.env.scope hi y)) = true := hx
    rw [Bool.and_eq_true, Bool.and_eq_true] at hx
    obtain ⟨⟨z1, z2⟩, z3⟩ := hx
    obtain ⟨tl, pl, kl⟩ := po_of c hl z2
    obtain ⟨th, ph, kh⟩ := po_of c hh z3
    refine ⟨pe_weakT (pe_slice (p2 := p2) (pos := p) (sl_list.or sl_tupA) (ha.e c x z1) pl ph) fun σ H Q hq => ?_, rfl⟩
    obtain ⟨e, F, g, hq⟩ := hq
    unfold evalE at hq
    refine ⟨e, F, g, good_imp (good_out (q1 := pure a) (Step.refl g) (outH_E hq)) id ?_⟩
    rintro v H1 ⟨y, e1, F1, hr, s1, r1, q1, h1⟩
    cases ok : okTwo y lo && okTwo y hi with
    | false => simp only [ok] at h1; exact h1.elim
    | true =>
    simp only [ok] at h1
    obtain ⟨ok1, ok2⟩ := Bool.and_eq_true_iff.mp ok
    refine kl (q := true) s1 (outH_E h1) fun l0 e2 F2 H2 s2 q2 h2 => ?_
    refine kh (q := true) (s1.trans s2) (outH_E h2) fun u0 e3 F3 H3 s3 q3 h3 => ?_
    have r3 := (r1.step s2 rfl (okTwo_q ok1 q2)).step s3 rfl (okTwo_q ok2 q3)
    have s123 := (s1.trans s2).trans s3
    have qq : (pure a && pure lo && pure hi) = true → Quiet H H3 := fun q => by
      simp only [Bool.and_eq_true] at q
      exact ((q1 q.1.1).trans (q2 q.1.2)).trans (q3 q.2)
    obtain ⟨d, f⟩ := y
    cases d <;> first | exact h3.elim | skip
    · rename_i xs
      obtain ⟨b, vs, rfl, w2, w3⟩ := r3.top.lst s123.agr.sub
      refine .inl ⟨b, vs, rfl, w2, fun p hp => ?_⟩
      obtain ⟨F4, s4, r4, sm⟩ := made_good s123 (.inr (.inl ⟨p, _, _, hp, rfl, rfl, rfl, cut_dp w3 l0 u0⟩) : Made X.K F3 H3 (.list (cut xs l0 u0)) (.ref p) _)
      exact h3 F4 _ _ s4 r4 fun q => (qq q).trans (Quiet.of sm)
    · rename_i xs
      obtain ⟨b, vs, rfl, w2, w3⟩ := r3.top.tup s123.agr.sub
      refine .inr ⟨b, vs, rfl, w2, fun ⟨t1, t2⟩ => ?_, fun _ p hp => ?_⟩
      · have e0 : cut xs l0 u0 = xs := by
          unfold cut
          rw [← sIx_cut, ← sIx_cut, ← w3.length, t1, t2, List.drop_zero, w3.length]
          exact List.take_length
        have h3 : GoodE X.K T cls W (pure (.slice a lo hi)) (Out.ok (.tuple (cut xs l0 u0), .val) e3) e σ F H Q := h3
        rw [e0] at h3
        refine h3 F3 H3 _ s123 ?_ qq
        rcases r3.top with q | ⟨_, _, _, z, _⟩
        · exact q
        · cases z
      · obtain ⟨F4, s4, r4, sm⟩ := made_good s123 (.inr (.inr ⟨p, _, _, hp, rfl, rfl, rfl, cut_dp w3 l0 u0⟩) : Made X.K F3 H3 (.tuple (cut xs l0 u0)) (.ref p) _)
        exact h3 F4 _ _ s4 r4 fun q => (qq q).trans (Quiet.of sm)
  exact ⟨fun c x hx => (E c x hx).1, fun c x hx _ => pt_gen (E c x hx).1 (E c x hx).2 fun _ => rfl⟩
theorem snd_isi {a : IE} (ty : TyN) (ha : Snd w a) : Snd w (.isi a ty) := by
  have E : ∀ {T : List (Addr × Str)} {cls : Nat → Addr} {W : WX} {Φ : Fun} {C : List D} {n : Nat} {X : Cx} (c : Ctx w T cls W Φ C n X) (x : Expr), chkE w X.N X.env.scope (.isi a ty) x = true → PE X x (tE X.K T cls W Φ C .v (.isi a ty)) ∧ testX x = true := by
    intro T cls W Φ C n X c x hx
    cases x <;> first | exact (Bool.false_ne_true hx).elim | skip
    rename_i g xs ks pos
    cases g <;> first | exact (Bool.false_ne_true hx).elim | skip
    rename_i f p
    match xs, ks, hx with
    | [x, .Name y py], [], hx =>
      have hx : (decide (f = ("isinstance" : Str)) && glB X.env.scope f && decide (y = tyA ty) && glB X.env.scope y && plainX x && chkE w X.N X.env.scope a x) = true := hx
      simp only [Bool.and_eq_true, decide_eq_true_eq] at hx
      obtain ⟨⟨⟨⟨⟨z1, z2⟩, z3⟩, z4⟩, z5⟩, z6⟩ := hx
      subst z1 z3
      obtain ⟨g1, g2⟩ := glB_ok z2
      obtain ⟨g3, g4⟩ := glB_ok z4
      have tyP : PE X (.Name (tyA ty) py) (tC (.ty (tyA ty).toString)) := by
        cases ty with
        | int => exact pe_bltn (v := .ty "int") (u := .type "int") g3 (c.free _ (by decide)) PyProof.Rows.boot_int rfl (by decide) (by decide)
        | bool => exact pe_bltn (v := .ty "bool") (u := .type "bool") g3 (c.free _ (by decide)) (by decide +kernel) rfl (by decide) (by decide)
        | str => exact pe_bltn (v := .ty "str") (u := .type "str") g3 (c.free _ (by decide)) (by decide +kernel) rfl (by decide) (by decide)
        | tuple => exact pe_bltn (v := .ty "tuple") (u := .type "tuple") g3 (c.free _ (by decide)) PyProof.Rows.boot_tuple rfl (by decide) (by decide)
        | list => exact pe_bltn (v := .ty "list") (u := .type "list") g3 (c.free _ (by decide)) PyProof.Rows.boot_list rfl (by decide) (by decide)
        | dict => exact pe_bltn (v := .ty "dict") (u := .type "dict") g3 (c.free _ (by decide)) (by decide +kernel) rfl (by decide) (by decide)
      refine ⟨pe_weakT (pe_callB (p := p) (pos := pos) call_isi g1 (c.free _ (by decide)) PyProof.Rows.boot_isinstance (pa_cons (ha.e c x z6) (pa_cons tyP pa_nil rfl) (star_cons z5)) (by decide) (by decide) (star_cons z5) rfl) fun σ H Q h => ?_, rfl⟩
      obtain ⟨e, F, g, h⟩ := h
      unfold evalE at h
      refine ⟨e, F, g, good_imp (good_out (q1 := pure a) (Step.refl g) (outH_E h)) id ?_⟩
      rintro v H1 ⟨y, e1, F1, hr, s1, r1, q1, h1⟩
      cases nd : isDict y.1 with
      | true => simp only [nd] at h1; exact h1.elim
      | false =>
        simp only [nd] at h1
        exact ⟨v, .ty (tyA ty).toString, _, _, _, rfl, .ty _, top_ty r1.top s1.agr.sub nd, kit_one X.K y.1 nd ty, h1 F1 H1 _ s1 (.bl _) q1⟩
  exact ⟨fun c x hx => (E c x hx).1, fun c x hx _ => pt_gen (E c x hx).1 (E c x hx).2 fun _ => rfl⟩
theorem mt_ix {l ds : List D} {d d0 : D} (hl : d0 = .list l ∨ d0 = .tuple l) (h : mtOp .index d0 ds = some d) : ∃ x0 j, ds = [x0] ∧ flat x0 = true ∧ l.all flat = true ∧ findEq x0 l = some j ∧ d = .int (j : Nat) := by
  rcases hl with rfl | rfl
  all_goals
    match ds, h with
    | [], h => cases h
    | _ :: _ :: _, h => cases h
    | [x0], h =>
      have h : (if (flat x0 && l.all flat) = true then (findEq x0 l).map (fun j => PyData.int (j : Nat)) else none) = some d := h
      split at h
      · rename_i hz
        obtain ⟨j, hj, rfl⟩ := Option.map_eq_some_iff.mp h
        obtain ⟨w1, w2⟩ := Bool.and_eq_true_iff.mp hz
        exact ⟨_, j, rfl, w1, w2, hj, rfl⟩
      · cases h
theorem snd_mt (k : MT) {a es : IE} (ha : Snd w a) (hs : SndS w es) : Snd w (.mt k a es) := by
  have E : ∀ {T : List (Addr × Str)} {cls : Nat → Addr} {W : WX} {Φ : Fun} {C : List D} {n : Nat} {X : Cx} (c : Ctx w T cls W Φ C n X) (x : Expr), chkE w X.N X.env.scope (.mt k a es) x = true → PE X x (tE X.K T cls W Φ C .v (.mt k a es)) ∧ testX x = true := by
    intro T cls W Φ C n X c x hx
    cases x <;> first | exact (Bool.false_ne_true hx).elim | skip
    rename_i g xs ks pos
    cases g <;> first | exact (Bool.false_ne_true hx).elim | skip
    cases ks <;> first | exact (Bool.false_ne_true hx).elim | skip
    rename_i o nm apos
    have hx : (decide (nm = mtA k) && chkE w X.N X.env.scope a o && chkS w X.N X.env.scope es xs && xs.all plainX && noSuper o && (apos.endLine == pos.line) && (match (generalizing := false) k with
        | .bitlen => xs.isEmpty
        | .index => decide (xs.length = 1)
        | .join => false)) = true := hx
    simp only [Bool.and_eq_true, decide_eq_true_eq] at hx
    obtain ⟨⟨⟨⟨⟨⟨rfl, z1⟩, z2⟩, z3⟩, z4⟩, z5⟩, z6⟩ := hx
    cases k with
    | join => cases z6
    | bitlen =>
      cases xs <;> first | (cases z6; done) | skip
      refine ⟨pe_weakT (pe_bits (apos := apos) (pos := pos) (ha.e c o z1) (base_plain z4) z5) fun σ H Q h => ?_, rfl⟩
      obtain ⟨e, F, g, h⟩ := h
      unfold evalE at h
      refine ⟨e, F, g, good_imp (good_out (q1 := pure a) (Step.refl g) (outH_E h)) id ?_⟩
      rintro v H1 ⟨y, e1, F1, hr, s1, r1, q1, h1⟩
      cases es <;> first | exact (Bool.false_ne_true z2).elim | skip
      cases ok : okTwo y .nil && mtOk .bitlen y with
      | false => simp only [ok] at h1; exact h1.elim
      | true =>
        simp only [ok] at h1
        replace h1 : GoodE X.K T cls W (pure a && true) (match mtOp .bitlen y.1 [] with | some d => Out.ok (d, .val) e1 | none => .stuck) e σ F H Q := h1
        obtain ⟨d, f⟩ := y
        cases d <;> first | exact h1.elim | skip
        rename_i i
        cases r1.top.int
        exact ⟨i, rfl, h1 F1 H1 _ s1 (.int _) fun q => q1 (Bool.and_eq_true_iff.mp q).1⟩
    | index =>
      have z6 : decide (xs.length = 1) = true := z6
      obtain ⟨y0, yr, rfl⟩ := one_of (of_decide_eq_true z6) (by decide)
      have yr0 : yr = [] := by
        have := of_decide_eq_true z6
        simpa using this
      subst yr0
      have z3' := z3
      rw [List.all_cons, Bool.and_eq_true] at z3'
      refine ⟨pe_weakT (pe_bm2 (apos := apos) (cpos := pos) (name := "index") PySem.F.plainAttrs_list PySem.F.slot_list_index PySem.F.type_list_index mt_index PySem.F.plainAttrs_tuple PySem.F.slot_tuple_index PySem.F.type_tuple_index mt_indexT tupX_is
        (ha.e c o z1) (hs.b c [y0] z2 z3) (base_plain z4) (by rw [back_all z3]; rfl) z5 (star_cons z3'.1) (back_plain z3'.2)) fun σ H Q h => ?_, rfl⟩
      obtain ⟨e, F, g, h⟩ := h
      unfold evalE at h
      refine ⟨e, F, g, good_imp (good_out (q1 := pure a) (Step.refl g) (outH_E h)) id ?_⟩
      rintro v H1 ⟨y, e1, F1, hr, s1, r1, q1, h1⟩
      cases ok : okTwo y es && mtOk .index y with
      | false => simp only [ok] at h1; exact h1.elim
      | true =>
        simp only [ok] at h1
        obtain ⟨ok1, ok2⟩ := Bool.and_eq_true_iff.mp ok
        -- the arguments, then the place
        have fin : ∀ {vs' : List V} {e2 : En} {F2 H2 : Hp} {ds : List D} {l : List D} {us : List V}, Step X.K T e1 σ F1 H1 e2 σ F2 H2 → Tops X.K F2 H2 vs' ds → (pure es = true → Quiet H1 H2) → DpAll X.K F2 us l → (y.1 = .list l ∨ y.1 = .tuple l) →
            GoodE X.K T cls W (pure a && pure es) (match mtOp .index y.1 ds with | some d => Out.ok (d, .val) e2 | none => .stuck) e σ F H Q →
            ∃ (u : V) (j : Nat) (z : V), vs' = [u] ∧ flatV u = true ∧ us.all flatV = true ∧ us[j]? = some z ∧ eqV z u = true ∧ (∀ (m : Nat) (z' : V), m < j → us[m]? = some z' → eqV z' u = false) ∧ Q (.int (j : Nat)) H2 := by
          intro vs' e2 F2 H2 ds l us s2 r2 q2 hd hl h2
          cases gd : mtOp .index y.1 ds with
          | none => rw [gd] at h2; exact h2.elim
          | some d =>
            rw [gd] at h2
            obtain ⟨x0, j, rfl, w1, w2, w3, rfl⟩ := mt_ix hl gd
            obtain ⟨u, rfl, tu⟩ := r2.one
            have du := top_flat tu w1
            obtain ⟨⟨z0, y1, y2⟩, y3⟩ := findEq_at w3
            obtain ⟨zv, y4, y5⟩ := hd.getD y1
            refine ⟨u, j, zv, rfl, flat_dp du w1, flats_dp hd w2, y4, ?_, fun m z' lt hz => ?_, ?_⟩
            · rw [eqV_dp y5 du (List.all_eq_true.mp w2 _ (List.mem_of_getElem? y1)) w1]
              exact y2
            · obtain ⟨d', y6, y7⟩ := hd.get hz
              rw [eqV_dp y7 du (List.all_eq_true.mp w2 _ (List.mem_of_getElem? y6)) w1]
              exact y3 m d' lt y6
            · refine h2 F2 H2 _ (s1.trans s2) (.int _) fun q => ?_
              obtain ⟨t1, t2⟩ := Bool.and_eq_true_iff.mp q
              exact (q1 t1).trans (q2 t2)
        obtain ⟨d, f⟩ := y
        cases d with
        | list l =>
          obtain ⟨b, us, rfl, w1, w2⟩ := r1.top.lst s1.agr.sub
          refine .inl ⟨.inl ⟨rfl, us, w1⟩, e1, F1, s1.agr, good_impL (good_outL (q1 := pure es) s1 (outH_E h1)) ?_⟩
          rintro vs' H2 ⟨ds, e2, F2, hr2, s2, r2, q2, h2⟩
          obtain ⟨b', us', eb, w3, w4⟩ := (r1.step s2 rfl (okTwo_q ok1 q2)).top.lst s2.agr.sub
          cases eb
          obtain ⟨u, j, z, rfl, k1, k2, k3, k4, k5, k6⟩ := fin s2 r2 q2 w4 (.inl rfl) h2
          exact ⟨b, us', u, j, z, rfl, rfl, w3, k1, k2, k3, k4, k5, k6⟩
        | tuple l =>
          cases f <;> first | (cases ok2; done) | skip
          obtain ⟨dp, xt⟩ := r1
          obtain ⟨b, us, rfl, w1, w2⟩ := (show Top X.K F1 H1 v (.tuple l) from .inl dp).tup s1.agr.sub
          obtain ⟨b0, o0, u0, eb, x1, x2⟩ := xt
          cases eb
          refine .inr ⟨⟨b, o0, u0, us, rfl, s1.agr.sub _ _ x1, x2, w1⟩, e1, F1, s1.agr, good_impL (good_outL (q1 := pure es) s1 (outH_E h1)) ?_⟩
          rintro vs' H2 ⟨ds, e2, F2, hr2, s2, r2, q2, h2⟩
          obtain ⟨b', us', eb, w3, w4⟩ := (show Top X.K F2 H2 (.ref b) (.tuple l) from .inl (Dp.mono s2.ff dp)).tup s2.agr.sub
          cases eb
          obtain ⟨u, j, z, rfl, k1, k2, k3, k4, k5, k6⟩ := fin s2 r2 q2 w4 (.inr rfl) h2
          exact ⟨b, us', u, j, z, rfl, rfl, w3, k1, k2, k3, k4, k5, k6⟩
        | _ => cases ok2
  exact ⟨fun c x hx => (E c x hx).1, fun c x hx _ => pt_gen (E c x hx).1 (E c x hx).2 fun _ => rfl⟩
end
end TI

set_option Elab.async false
set_option autoImplicit false
set_option maxRecDepth 100000
set_option maxHeartbeats 8000000
set_option linter.all false
/-! TI15: a name's list is changed. -/
namespace TI
open PySem PySem.Spec PyProof.Rows L2
section
variable {K : PySem.W.Frag} {T : List (Addr × Str)} {e : En} {σ : L2.St} {F H : Hp} {a : Addr} {i : Nat} {s s' : Slot} {xs ys : List D} {vs us : List V}
theorem sameKind_held (k : sameKind s s') : (∃ xs, held s = some xs) ∧ (∃ ys, held s' = some ys) := by
  cases s <;> cases s' <;> first | exact k.elim | exact ⟨⟨_, rfl⟩, ⟨_, rfl⟩⟩
theorem step_write (g : Agr K T e σ F H) (h : e[i]? = some s) (hs : held s = some xs) (hv : σ[i]? = some (some (.ref a))) (hd : DpAll K F us ys) (k : sameKind s s') (hs' : held s' = some ys) : Step K T e σ F H (e.set i s') σ F (upd H a (.lst us)) := by
  obtain ⟨a0, vs, w1, w2, w3, w4⟩ := g.holds h hs
  rw [hv] at w1
  cases w1
  have oa : Own e σ a := ⟨i, s, xs, h, hs, hv⟩
  have li : i < e.length := (List.getElem?_eq_some_iff.mp h).1
  have ne : ∀ b, ¬ Own e σ b → b ≠ a := fun b n z => n (z ▸ oa)
  have nf : ∀ b u, F b = some u → b ≠ a := fun b u q z => by
    subst z
    rw [w2] at q
    cases q
  have orig : ∀ (j : Nat) (t : Slot) (zs : List D), (e.set i s')[j]? = some t → held t = some zs → ∃ t0 zs0, e[j]? = some t0 ∧ held t0 = some zs0 := fun j t zs q1 q2 => by
    rcases get_set q1 with ⟨rfl, rfl⟩ | ⟨_, q⟩
    · exact ⟨s, xs, h, hs⟩
    · exact ⟨t, zs, q, q2⟩
  refine ⟨Same.refl F, fun b o q n _ => by rw [upd_ne (ne b n)]; exact q, fun b o _ q _ => q, fun b ⟨j, t, zs, q1, q2, q3⟩ => ?_, ⟨by rw [List.length_set]; exact g.len, fun j t q => ?_, fun j l t u zs ws q1 q2 q3 q4 n => ?_, fun b u q => by rw [upd_ne (nf b u q)]; exact g.sub b u q, g.noT, tabs_lst g.tab w3⟩, fun j zs q => ?_, fun b q => ?_⟩
  · obtain ⟨t0, zs0, z1, z2⟩ := orig j t zs q1 q2
    exact .inl ⟨j, t0, zs0, z1, z2, q3⟩
  · rcases get_set q with ⟨rfl, rfl⟩ | ⟨n, q⟩
    · refine ⟨_, hv, ?_⟩
      cases t with
      | own ws => cases hs'; exact ⟨a, us, rfl, w2, upd_same, hd⟩
      | io ws => cases hs'; exact ⟨a, us, rfl, w2, upd_same, hd⟩
      | emp => cases hs'
      | val _ => cases hs'
      | valx _ => cases hs'
      | valy _ => cases hs'
    · obtain ⟨o, h1, h2⟩ := g.slots j t q
      refine ⟨o, h1, h2.mono (Same.refl F) fun b zs z1 z2 => ?_⟩
      subst z2
      obtain ⟨b0, ws, y1, y2, y3, y4⟩ := g.holds q z1
      rw [h1] at y1
      cases y1
      have nb : b ≠ a := fun z => by
        subst z
        exact g.dis i j s t xs zs h q hs z1 (fun z => n z.symm) (hv.trans h1.symm)
      exact ⟨upd_ne nb, y2⟩
  · obtain ⟨t0, zs0, z1, z2⟩ := orig j t zs q1 q3
    obtain ⟨u0, ws0, z3, z4⟩ := orig l u ws q2 q4
    exact g.dis j l t0 u0 zs0 ws0 z1 z3 z2 z4 n
  · by_cases hj : j = i
    · subst hj
      rw [h] at q
      cases q
      cases s' <;> first | exact k.elim | skip
      exact ⟨⟨_, by rw [List.getElem?_set_self li]⟩, rfl⟩
    · exact ⟨⟨zs, by rw [List.getElem?_set_ne (fun z => hj z.symm)]; exact q⟩, rfl⟩
  · by_cases hb : b = a
    · subst hb
      rw [upd_same]
      simp
    · rw [upd_ne hb]
      exact q
theorem modL_at {f : List D → Option (List D)} {e' : En} (h : modL e i f = some e') : ∃ s xs s' ys, e[i]? = some s ∧ held s = some xs ∧ sameKind s s' ∧ held s' = some ys ∧ f xs = some ys ∧ e' = e.set i s' := by
  unfold modL at h
  split at h
  · rename_i xs q
    obtain ⟨ys, h1, rfl⟩ := Option.map_eq_some_iff.mp h
    exact ⟨_, xs, .own ys, ys, q, rfl, trivial, rfl, h1, rfl⟩
  · rename_i xs q
    obtain ⟨ys, h1, rfl⟩ := Option.map_eq_some_iff.mp h
    exact ⟨_, xs, .io ys, ys, q, rfl, trivial, rfl, h1, rfl⟩
  · cases h
end
theorem heldAt_is {e : En} {i : Nat} {xs : List D} {mk : List D → Slot} (h : heldAt e i = some (xs, mk)) : ∃ s, e[i]? = some s ∧ held s = some xs ∧ ∀ ys, sameKind s (mk ys) ∧ held (mk ys) = some ys := by
  unfold heldAt at h
  split at h
  · rename_i q; cases h; exact ⟨_, q, rfl, fun ys => ⟨trivial, rfl⟩⟩
  · rename_i q; cases h; exact ⟨_, q, rfl, fun ys => ⟨trivial, rfl⟩⟩
  · cases h
theorem dropLast_get {α : Type} : ∀ (l : List α), l.getLast? = l[l.length - 1]?
  | [] => rfl
  | a :: r => by rw [List.getLast?_eq_getElem?]
theorem place_seq {n : Nat} {i : Int} {p : Nat} (h : place n i = some p) : seqIndex? i n = some p ∧ p < n ∧ -(n : Int) ≤ i ∧ i < n := ixN_seq h
section
variable {w : Nm}
theorem snd_pop (i : Nat) : Snd w (.pop i) := by
  have E : ∀ {T : List (Addr × Str)} {cls : Nat → Addr} {W : WX} {Φ : Fun} {C : List D} {n : Nat} {X : Cx} (c : Ctx w T cls W Φ C n X) (x : Expr), chkE w X.N X.env.scope (.pop i) x = true → PE X x (tE X.K T cls W Φ C .v (.pop i)) ∧ testX x = true := by
    intro T cls W Φ C n X c x hx
    cases x <;> first | exact (Bool.false_ne_true hx).elim | skip
    rename_i g xs ks pos
    cases g <;> first | exact (Bool.false_ne_true hx).elim | skip
    rename_i o nm apos
    cases o <;> first | exact (Bool.false_ne_true hx).elim | skip
    cases xs <;> first | exact (Bool.false_ne_true hx).elim | skip
    cases ks <;> first | exact (Bool.false_ne_true hx).elim | skip
    rename_i x p
    have hx : (decide (nm = ("pop" : Str)) && decide (X.N[i]? = some x) && visB X.env.scope x && !(x == ("__debug__" : Str)) && !(x == ("__classdict__" : Str)) && (apos.endLine == pos.line)) = true := hx
    simp only [Bool.and_eq_true, decide_eq_true_eq, Bool.not_eq_true'] at hx
    obtain ⟨⟨⟨⟨⟨rfl, h1⟩, h2⟩, h3⟩, h4⟩, h5⟩ := hx
    refine ⟨pe_weakT (pe_bm0 (apos := apos) (cpos := pos) (name := "pop") PySem.F.plainAttrs_list PySem.F.slot_list_pop PySem.F.type_list_pop mt_pop (pe_var (pos := p) h1 (visB_ok h2) h3 h4) (base_plain rfl) h5) fun σ H Q h => ?_, rfl⟩
    obtain ⟨e, F, g, h⟩ := h
    unfold evalE at h
    have fin : ∀ {s s' : Slot} {xs : List D}, e[i]? = some s → held s = some xs → sameKind s s' → held s' = some xs.dropLast → GoodE X.K T cls W (pure (.pop i)) (match xs.getLast? with | some d => Out.ok (d, .val) (e.set i s') | none => .stuck) e σ F H Q →
        tBM0 X.K "list" rPop (tVar i) σ H Q := fun {s s' xs} q1 q2 q3 q4 h => by
      obtain ⟨a, vs, w1, w2, w3, w4⟩ := g.holds q1 q2
      cases z : xs.getLast? with
      | none => rw [z] at h; exact h.elim
      | some d =>
        rw [z] at h
        rw [dropLast_get] at z
        obtain ⟨v, z1, z2⟩ := w4.getD z
        refine ⟨.ref a, w1, .inl ⟨rfl, vs, .of w3⟩, a, vs, v, rfl, rfl, w3, by rw [w4.length]; exact z1, ?_⟩
        exact h F _ v (step_write g q1 q2 w1 w4.dropLast q3 q4) z2 fun z => nomatch z
    cases q : e[i]? with
    | none => rw [q] at h; exact h.elim
    | some sl =>
      rw [q] at h
      cases sl with
      | own xs => exact fin (s' := .own xs.dropLast) q rfl trivial rfl h
      | io xs => exact fin (s' := .io xs.dropLast) q rfl trivial rfl h
      | _ => exact h.elim
  exact ⟨fun c x hx => (E c x hx).1, fun c x hx _ => pt_gen (E c x hx).1 (E c x hx).2 fun _ => rfl⟩
theorem snd_popAt (i : Nat) {k : IE} (hk : Snd w k) : Snd w (.popAt i k) := by
  have E : ∀ {T : List (Addr × Str)} {cls : Nat → Addr} {W : WX} {Φ : Fun} {C : List D} {n : Nat} {X : Cx} (c : Ctx w T cls W Φ C n X) (x : Expr), chkE w X.N X.env.scope (.popAt i k) x = true → PE X x (tE X.K T cls W Φ C .v (.popAt i k)) ∧ testX x = true := by
    intro T cls W Φ C n X c x hx
    cases x <;> first | exact (Bool.false_ne_true hx).elim | skip
    rename_i g xs ks pos
    cases g <;> first | exact (Bool.false_ne_true hx).elim | skip
    rename_i o nm apos
    cases o <;> first | exact (Bool.false_ne_true hx).elim | skip
    rename_i x p
    match xs, ks, hx with
    | [y], [], hx =>
      have hx : (decide (nm = ("pop" : Str)) && decide (X.N[i]? = some x) && visB X.env.scope x && !(x == ("__debug__" : Str)) && !(x == ("__classdict__" : Str)) && (apos.endLine == pos.line) && plainX y && chkE w X.N X.env.scope k y) = true := hx
      simp only [Bool.and_eq_true, decide_eq_true_eq, Bool.not_eq_true'] at hx
      obtain ⟨⟨⟨⟨⟨⟨⟨rfl, h1⟩, h2⟩, h3⟩, h4⟩, h5⟩, h6⟩, h7⟩ := hx
      have hp : [y].all plainX = true := by rw [List.all_cons, h6]; rfl
      refine ⟨pe_weakT (pe_bm (apos := apos) (cpos := pos) (name := "pop") PySem.F.plainAttrs_list PySem.F.slot_list_pop PySem.F.type_list_pop mt_popAt (pe_var (pos := p) h1 (visB_ok h2) h3 h4) (pa_cons (hk.e c y h7) pa_nil (star_cons h6)) (base_plain rfl) (by rw [back_all hp]; rfl) h5 (star_cons h6) rfl) fun σ H Q h => ?_, rfl⟩
      obtain ⟨e, F, g, h⟩ := h
      unfold evalE at h
      cases hh : isHeld e i with
      | false => simp only [hh] at h; exact h.elim
      | true =>
        simp only [hh] at h
        obtain ⟨a, ha⟩ := isHeld_at g hh
        have hl : ∃ us, SqL X.K H a us := by
          unfold isHeld at hh
          split at hh
          · rename_i xs q
            obtain ⟨b, us, w1, w2, w3, w4⟩ := g.holds q rfl
            rw [ha] at w1
            cases w1
            exact ⟨us, .of w3⟩
          · rename_i xs q
            obtain ⟨b, us, w1, w2, w3, w4⟩ := g.holds q rfl
            rw [ha] at w1
            cases w1
            exact ⟨us, .of w3⟩
          · cases hh
        refine ⟨.ref a, ha, .inl ⟨rfl, hl⟩, e, F, g, good_imp (good_out (q1 := pure k) (Step.refl g) (outH_E h)) id ?_⟩
        rintro v H1 ⟨y1, e1, F1, hr, s1, r1, q1, h1⟩
        obtain ⟨d, f⟩ := y1
        cases d <;> first | exact h1.elim | skip
        rename_i j
        cases r1.top.int
        replace h1 : GoodE X.K T cls W (pure (.popAt i k)) (popR e1 i (.int j)) e σ F H Q := h1
        unfold popR at h1
        cases z : heldAt e1 i with
        | none => simp only [z] at h1; exact h1.elim
        | some w0 =>
          obtain ⟨xs, mk⟩ := w0
          obtain ⟨sl, z1, z2, z3⟩ := heldAt_is z
          simp only [z] at h1
          cases ir : inR j with
          | false => simp only [ir] at h1; exact h1.elim
          | true =>
            cases z4 : place xs.length j with
            | none => simp only [ir, z4] at h1; exact h1.elim
            | some p0 =>
              cases z5 : xs[p0]? with
              | none => simp only [ir, z4, z5] at h1; exact h1.elim
              | some d0 =>
                simp only [ir, z4, z5] at h1
                obtain ⟨b, us, w1, w2, w3, w4⟩ := s1.agr.holds z1 z2
                rw [ha] at w1
                cases w1
                obtain ⟨m1, m2, m3, m4⟩ := place_seq z4
                obtain ⟨i1, i2⟩ := inR_ok ir
                obtain ⟨v0, z6, z7⟩ := w4.getD z5
                exact ⟨a, us, j, p0, v0, rfl, rfl, w3, by omega, by omega, by rw [w4.length]; exact m1, z6, h1 F1 _ v0 (s1.trans (step_write s1.agr z1 z2 ha (w4.eraseIdx p0) (z3 _).1 (z3 _).2)) z7 fun z => nomatch z⟩
  exact ⟨fun c x hx => (E c x hx).1, fun c x hx _ => pt_gen (E c x hx).1 (E c x hx).2 fun _ => rfl⟩
end
end TI

set_option Elab.async false
set_option autoImplicit false
set_option maxRecDepth 100000
set_option maxHeartbeats 8000000
set_option linter.all false
/-! TI16: lists and tuples alike as what a loop walks; enumerate of both. -/
namespace L2
open PySem PySem.Spec PyProof.Rows
section
variable {prog : Program} {w : World} {A : Around} {E : Value → Shared → Prop} {s : Shared}
theorem meets_enum1 {v : Value} {o : Obj} {G : Heap → Prop} (B : Begins v o G) :
    Meets (Builtin.«enumerate.__new__» ⟨[.type "enumerate", v], []⟩) (fun _ R c => G c.heap ∧
      R (.ok (.ret (.ref (c.heap.push o).objs.size))) { c with heap := (c.heap.push o).push { cls := .type "enumerate", data := .fields #[.none, .bool false, .ref c.heap.objs.size, rawInt 0, .none, .none] } }) :=
  .of_wp fun prog w A R s h => by
    obtain ⟨hp, g, d, tk, os⟩ := s
    obtain ⟨h1, h⟩ := h
    have sub0 := sub_enumerate
    have it0 : ∀ {A' : Around} {E : Value → Shared → Prop} {Q : Value → Shared → Prop}, Q (.ref hp.objs.size) ⟨hp.push o, g, d, tk, os⟩ → wpAny (model prog w) A' (pyIter v) Q E ⟨hp, g, d, tk, os⟩ :=
      fun q => B.iter prog w _ _ ⟨hp, g, d, tk, os⟩ _ h1 q
    wp_walk using it0
    refine wpAny_stack_any fun st => wpAny_pure ?_
    split
    · rename_i c _ _ _ _ _
      cases (c == Value.type "enumerate") <;> (wp_walk using it0; exact ⟨_, rfl, h⟩)
    · wp_walk using it0
      exact ⟨_, rfl, h⟩
theorem call_enum1 {v : Value} {o : Obj} {G : Heap → Prop} {Q : Value → Shared → Prop} (B : Begins v o G) (h1 : G s.heap)
    (h : ∀ h', IsEnum h' (s.heap.objs.size + 1) s.heap.objs.size 0 .none → h'.get? s.heap.objs.size = some o → (∀ b o, s.heap.get? b = some o → h'.get? b = some o) → Q (.ref (s.heap.objs.size + 1)) { s with heap := h' }) :
    wpAny (model prog w) A (call (.type "enumerate") [v]) Q E s := by
  refine callType_new F.called_enumerate (by decide) (F.typeCall_enumerate_1 _) (F.newCall_enumerate_1 _) (fun obj => F.args_object_init_2 obj _) F.entry_enumerate_new (meets_enum1 B) ⟨h1, ?_⟩
  have sz : (s.heap.push o).objs.size = s.heap.objs.size + 1 := Heap.size_push ..
  show _ ∧ _
  rw [sz]
  have he : IsEnum ((s.heap.push o).push { cls := .type "enumerate", data := .fields #[.none, .bool false, .ref s.heap.objs.size, rawInt 0, .none, .none] }) (s.heap.objs.size + 1) s.heap.objs.size 0 .none := by
    have q := Heap.get?_push_size (s.heap.push o) (o := { cls := .type "enumerate", data := .fields #[.none, .bool false, .ref s.heap.objs.size, rawInt 0, .none, .none] }) rfl
    rw [sz] at q
    exact q
  exact ⟨⟨_, he, rfl⟩, h _ he (Heap.get?_push_of_some _ (Heap.get?_push_size _ B.free)) fun b o x => Heap.get?_push_of_some _ (Heap.get?_push_of_some _ x)⟩
end
/-- the tuple at a, each item in a new pair -/
def IteT (K : PySem.W.Frag) (a : Addr) : It :=
  ⟨fun i H => ∃ (xs : List V) (x : V), SqT K H a xs ∧ xs[i]? = some x, fun i H v H' => ∃ p x, v = .ref p ∧ H p = none ∧ H' = upd H p (.tup [.int (i : Nat), x]) ∧ ∀ xs, SqT K H a xs → xs[i]? = some x, fun i H => ∃ xs : List V, SqT K H a xs ∧ xs.length = i⟩
theorem turn_enumT {P : Program} {w : World} {K : PySem.W.Frag} {elts : List Expr} {kk : Nat} {tpos : Pos} (a e it : Addr) :
    Turn P w K (.Tuple elts kk tpos) (IteT K a) [e, it] e (fun i h => (∃ old, IsEnum h e it ((i : Nat) : Int) old) ∧ h.IsTupleIter it a i ∧ e ≠ it) where
  mem := by simp
  obj := fun i h st b hb => by
    obtain ⟨⟨old, he⟩, ⟨o, ho, hc, hd⟩, _⟩ := st
    rcases List.mem_cons.mp hb with z | z
    · rw [z]; exact ⟨_, he, fun v q => nomatch q⟩
    · rw [List.mem_singleton.mp z]; exact ⟨o, ho, fun v q => by rw [hd] at q; cases q⟩
  keep := fun i h h' st k => ⟨let ⟨old, he⟩ := st.1; ⟨old, k e (by simp) _ he⟩, st.2.1.at fun o q => k it (by simp) o q, st.2.2⟩
  item := by
    intro X hP hw hK hc i pins s σ H E I hf st hg
    subst hP hw hK
    obtain ⟨⟨old, he⟩, hit, ne⟩ := st
    obtain ⟨xs, x, hq, hx⟩ := hg
    obtain ⟨its, rv, p, hz⟩ := I.tuple hq
    obtain ⟨u, hu, ru⟩ := rv.get hx
    have le : e < s.heap.objs.size := Heap.lt_size he
    have li : it < s.heap.objs.size := by obtain ⟨_, q, _⟩ := hit; exact Heap.lt_size q
    have pt : s.heap.IsTuple a its.toArray := p
    obtain ⟨oa, ga, ca, na, da⟩ := id pt
    obtain ⟨oi, gi, ci, di⟩ := id hit
    have nai : a ≠ it := fun z => by
      subst z
      rw [ga] at gi
      cases gi
      rw [ca] at ci
      exact absurd ci (by decide)
    have nae : e ≠ a := fun z => by
      subst z
      have q : some oa = _ := ga.symm.trans he
      cases q
      exact absurd (show Value.type "enumerate" = Value.type "tuple" from ca) (by decide)
    have ln : i < its.toArray.size := by
      rw [List.size_toArray]
      exact (List.getElem?_eq_some_iff.mp hu).1
    have Dr := Draws.tuple (prog := X.prog) (w := X.w) (A := X.A.in1) (I.ok.hd hc) it a nai its.toArray
    refine wpAny_pyNext_enum_itemD Dr he ⟨hit, pt⟩ ln ne (fun z => ?_) fun y h' tk hy ho hst hT hsz hk => ?_
    · rcases List.mem_cons.mp z with z | z
      · exact ne z
      · exact nae (List.mem_singleton.mp z)
    have yu : y = u := by
      have q : its.toArray[i]? = some u := by simpa using hu
      rw [q] at hy
      exact (Option.some.inj hy).symm
    subst yu
    refine ⟨_, rfl, wpAny_letOwnedTupleGo_enum (s := { s with heap := h', toks := tk + 1 }) ho fun h'' he' sb => ?_⟩
    have T2 : h''.get? s.heap.objs.size = some { cls := .type "tuple", data := .seq #[.int i tk, y] } := (sb.2 _ (Nat.ne_of_gt le)).trans hT
    have new : ObjOk X.prog X.w (upd H s.heap.objs.size (.tup [.int (i : Nat), x])) h'' s.heap.objs.size (.tup [.int (i : Nat), x]) :=
      ⟨by show 2 ≤ sizeLine; decide, [.int i tk, y], .cons ⟨_, rfl⟩ (.cons ru .nil), ⟨_, T2, rfl, _, rfl⟩⟩
    have J : Inv X pins σ (upd H s.heap.objs.size (.tup [.int (i : Nat), x])) { s with heap := h'', toks := tk + 1 } :=
      I.turnedNew (ch := [e, it]) (fun b ob hb q => (sb.2 b (fun z => hb (by simp [z]))).trans (hk b ob (fun z => hb (by simp [z])) (fun z => hb (by simp [z])) q)) hf (Nat.le_refl _) new
    refine ⟨.ref s.heap.objs.size, _, J, rfl, ⟨_, x, rfl, I.hok.fresh (Nat.le_refl _), rfl, fun ys hy => by rw [I.tuple_inj hy hq]; exact hx⟩, ⟨⟨y, ?_⟩, hst.1.at fun o q => (sb.2 it (Ne.symm ne)).trans q, ne⟩, fun b hb => ?_⟩
    · rw [show ((i + 1 : Nat) : Int) = (i : Int) + 1 by omega]; exact he'
    · have lb : b < s.heap.objs.size := by
        rcases List.mem_cons.mp hb with z | z
        · rw [z]; exact le
        · rw [List.mem_singleton.mp z]; exact li
      rw [upd_ne (Nat.ne_of_lt lb)]
      exact (hf b hb).1
  done := by
    intro X hP hw hK hc i pins s σ H E I hf st hg
    subst hP hw hK
    obtain ⟨⟨old, he⟩, hit, ne⟩ := st
    obtain ⟨xs, hq, hx⟩ := hg
    obtain ⟨its, rv, p, hz⟩ := I.tuple hq
    obtain ⟨f0, f1, f2, f3, f4, f5⟩ := hf it (by simp)
    have ln := rv.length
    have pt : s.heap.IsTuple a its.toArray := p
    obtain ⟨oa, ga, ca, na, da⟩ := id pt
    obtain ⟨oi, gi, ci, di⟩ := id hit
    have nai : a ≠ it := fun z => by
      subst z
      rw [ga] at gi
      cases gi
      rw [ca] at ci
      exact absurd ci (by decide)
    have Dr := Draws.tuple (prog := X.prog) (w := X.w) (A := X.A.in1) (I.ok.hd hc) it a nai its.toArray
    have e0 : i = its.toArray.size := by rw [List.size_toArray]; omega
    subst e0
    exact wpAny_pyNext_enum_endD Dr he ⟨hit, pt⟩ fun h' eb => ⟨rfl, I.turned (t' := s.toks) (fun b o hb q => eb b o hb q) f0 f1 f3 f4 f5⟩
  self := fun A i s Q E st h => let ⟨⟨_, he⟩, _⟩ := st; wpAny_pyIter_enum he h
section
variable {X : Cx} {tg : Expr}
/-- a list or a tuple, walked -/
def iSeq (K : PySem.W.Frag) (tl : TE) : TI := fun σ H R => tl σ H fun x H1 => ∃ a, x = .ref a ∧ (((∃ xs, SqL K H1 a xs) ∧ R (Itl K a) H1) ∨ ((∃ xs, SqT K H1 a xs) ∧ R (Itt K a) H1))
theorem pi_seq {l : Expr} {tl : TE} (hl : PE X l tl) : PI X tg l (iSeq X.K tl) := by
  refine ⟨fun pins s σ H R I h => thn (hl.run pins s σ H _ I h) fun v c ⟨x, G, J, rv, a, ex, q⟩ => ?_⟩
  subst ex
  cases rv
  have one : ∀ b ∈ [c.heap.objs.size], FpOk X pins G b := fun b hb => by
    rw [List.mem_singleton.mp hb]
    exact J.fpOk (Nat.le_refl _) (J.hok.fresh (Nat.le_refl _))
  rcases q with ⟨⟨xs, hq⟩, q⟩ | ⟨⟨xs, hq⟩, q⟩
  · obtain ⟨its, _, p, _⟩ := J.list hq
    exact wpAny_pyIter_list p.isList ⟨c.heap.objs.size, [c.heap.objs.size], _, _, G, rfl, J.kept (t' := c.toks) fun b o e => Heap.get?_push_of_some _ e, turn_list a _, ⟨_, Heap.get?_push_size _ rfl, rfl, rfl⟩, one, q⟩
  · obtain ⟨its, _, p, _⟩ := J.tuple hq
    exact wpAny_pyIter_tuple (show c.heap.IsTuple a its.toArray from p) ⟨c.heap.objs.size, [c.heap.objs.size], _, _, G, rfl, J.kept (t' := c.toks) fun b o e => Heap.get?_push_of_some _ e, turn_tuple a _, ⟨_, Heap.get?_push_size _ rfl, rfl, rfl⟩, one, q⟩
/-- enumerate of a list or a tuple -/
def iEnumA (K : PySem.W.Frag) (ta : TA) : TI := fun σ H R => ta σ H fun vs H1 => ∃ a, vs = [.ref a] ∧ (((∃ xs, SqL K H1 a xs) ∧ R (Ite K a) H1) ∨ ((∃ xs, SqT K H1 a xs) ∧ R (IteT K a) H1))
theorem pi_enumA {e : Expr} {ta : TA} {p pos tpos : Pos} {elts : List Expr} {kk : Nat} (hg : Gl X "enumerate") (hm : X.mg "enumerate" = none) (ha : PA X [e] ta) (hs : starEach [e] X.env = [(false, eval e X.env)]) :
    PI X (.Tuple elts kk tpos) (.Call (.Name "enumerate" p) [e] [] pos) (iEnumA X.K ta) := by
  refine ⟨fun pins s σ H R I h => Call_ (ld_blt I hg hm boot_enumerate (PyProof.Rows.callWith_type1 (thn (ha.run pos pins s σ H _ I h) fun us c ⟨vs, G, J, rv, a, ex, q⟩ => ?_) hs rfl))⟩
  subst ex
  obtain ⟨u, rfl, ru⟩ := rv.one
  cases ru
  have two : ∀ b ∈ [c.heap.objs.size + 1, c.heap.objs.size], FpOk X pins G b := fun b hb => by
    have le : c.heap.objs.size ≤ b := by
      rcases List.mem_cons.mp hb with z | z
      · rw [z]; exact Nat.le_add_right _ _
      · rw [List.mem_singleton.mp z]; exact Nat.le_refl _
    exact J.fpOk le (J.hok.fresh le)
  rcases q with ⟨⟨xs, hq⟩, q⟩ | ⟨⟨xs, hq⟩, q⟩
  · obtain ⟨its, _, p', _⟩ := J.list hq
    refine call_enum1 (begins_list a its.toArray) p'.isList fun h' he hit hk => wpAny_pyIter_enum he ?_
    exact ⟨c.heap.objs.size + 1, _, _, _, G, rfl, J.kept (t' := c.toks) hk, turn_enum a (c.heap.objs.size + 1) c.heap.objs.size, ⟨⟨.none, he⟩, ⟨_, hit, rfl, rfl⟩, Nat.succ_ne_self _⟩, two, q⟩
  · obtain ⟨its, _, p', _⟩ := J.tuple hq
    refine call_enum1 (begins_tuple a its.toArray) p' fun h' he hit hk => wpAny_pyIter_enum he ?_
    exact ⟨c.heap.objs.size + 1, _, _, _, G, rfl, J.kept (t' := c.toks) hk, turn_enumT a (c.heap.objs.size + 1) c.heap.objs.size, ⟨⟨.none, he⟩, ⟨_, hit, rfl, rfl⟩, Nat.succ_ne_self _⟩, two, q⟩
end
section
variable {K : PySem.W.Frag} {a : Addr} {xs : List V}
theorem walk_enumT : Walk (IteT K a) xs.length (fun H => SqT K H a xs) (YPair (fun i => some (.int (i : Nat))) (fun i => xs[i]?)) := by
  refine ⟨fun i _ hi q => ⟨xs, xs[i], q, by simp [hi]⟩, fun _ q => ⟨xs, q, rfl⟩, fun i H v H' _ q y => ?_⟩
  obtain ⟨p, x, h1, h2, h3, h4⟩ := y
  exact ⟨p, .int (i : Nat), x, h1, h2, h3, rfl, h4 xs q⟩
end
end L2

set_option Elab.async false
set_option autoImplicit false
set_option maxRecDepth 100000
set_option maxHeartbeats 8000000
set_option linter.all false
/-! TI17: what a loop or a comprehension walks, as the trees say. -/
namespace TI
open PySem PySem.Spec PyProof.Rows L2
/-- lists that stand as they were -/
def Keep (L : List (Addr × List V)) (H : Hp) : Prop := ∀ p ∈ L, H p.1 = some (.lst p.2)
theorem keep_nil {H : Hp} : Keep [] H := fun p hp => nomatch hp
theorem keep_one {H : Hp} {a : Addr} {vs : List V} (h : H a = some (.lst vs)) : Keep [(a, vs)] H := fun p hp => by
  rw [List.mem_singleton.mp hp]
  exact h
/-- an item of a walk: as it stands, or a new tuple -/
def YOk (K : PySem.W.Frag) (F H : Hp) (d : D) (x : V) (H' : Hp) : Prop := (H' = H ∧ Dp K F x d) ∨ ∃ p vs ds, H p = none ∧ x = .ref p ∧ H' = upd H p (.tup vs) ∧ d = .tuple ds ∧ DpAll K F vs ds
/-- a walk gives the items xs -/
def IterOk (K : PySem.W.Frag) (F : Hp) (L : List (Addr × List V)) (xs : List D) (J : It) : Prop := ∃ G Y, Walk J xs.length G Y ∧ (∀ H, Same F H → Keep L H → G H) ∧
  ∀ i H x H', i < xs.length → Same F H → Keep L H → Y i H x H' → ∃ d, xs[i]? = some d ∧ YOk K F H d x H'
section
variable (K : PySem.W.Frag) (T : List (Addr × Str)) (cls : Nat → Addr) (W : WX)
def GoodI (q : Bool) (r : Out (D × Fl)) (e : En) (σ : L2.St) (F H : Hp) (R : It → Hp → Prop) : Prop := match r with
  | .ok x e' => (match itemsOf x.1 with
    | some xs => ∀ F' H' J L, Step K T e σ F H e' σ F' H' → IterOk K F' L xs J → Keep L H' → (x.2.isBr = false → L = []) → (q = true → Quiet H H') → R J H'
    | none => False)
  | .exc c d e' => ∀ F' H' dx v, Step K T e σ F H e' σ F' H' → H' dx = some (.xd [(("what" : Str), v)]) → Dp K F' v d → W (.ref (cls c)) (some dx) σ H'
  | .stuck => False
def tI (Φ : Fun) (C : List D) (ie : IE) : L2.TI := fun σ H R => ∃ e F, Agr K T e σ F H ∧ GoodI K T cls W (pure ie) (evalE Φ C ie .i e) e σ F H R
end
section
variable {K : PySem.W.Frag} {F : Hp} {L : List (Addr × List V)} {a b : Addr} {vs us : List V} {xs ys : List D} {H : Hp}
theorem iter_lst (s : ∀ H, Same F H → Keep L H → SqL K H a vs) (h : DpAll K F vs xs) : IterOk K F L xs (Itl K a) := by
  refine ⟨_, _, h.length ▸ walk_list (K := K) (a := a) (xs := vs), s, fun i H x H' hi s1 s2 y => ?_⟩
  obtain ⟨e, y⟩ := y
  obtain ⟨d, h1, h2⟩ := h.get y
  exact ⟨d, h1, .inl ⟨e, h2⟩⟩
theorem iter_tup (s : ∀ H, Same F H → Keep L H → SqT K H a vs) (h : DpAll K F vs xs) : IterOk K F L xs (Itt K a) := by
  refine ⟨_, _, h.length ▸ walk_tup (K := K) (a := a) (xs := vs), s, fun i H x H' hi s1 s2 y => ?_⟩
  obtain ⟨e, y⟩ := y
  obtain ⟨d, h1, h2⟩ := h.get y
  exact ⟨d, h1, .inl ⟨e, h2⟩⟩
theorem enumL_len : ∀ (xs : List D) (k : Nat), (enumL k xs).length = xs.length
  | [], _ => rfl
  | _ :: r, k => by rw [enumL, List.length_cons, List.length_cons, enumL_len r]
theorem enumL_get : ∀ (xs : List D) (k i : Nat) (d : D), xs[i]? = some d → (enumL k xs)[i]? = some (.tuple [.int ((k + i : Nat) : Int), d])
  | [], _, _, _, h => by simp at h
  | x :: r, k, 0, d, h => by
    simp at h
    subst h
    rfl
  | x :: r, k, i + 1, d, h => by
    have := enumL_get r (k + 1) i d (by simpa using h)
    rw [enumL, List.getElem?_cons_succ, this]
    rw [show k + 1 + i = k + (i + 1) by omega]
theorem zipL_len : ∀ (xs ys : List D), (zipL xs ys).length = min xs.length ys.length
  | [], ys => by simp [zipL]
  | x :: xs, [] => by simp [zipL]
  | x :: xs, y :: ys => by
    rw [zipL, List.length_cons, zipL_len xs ys]
    simp only [List.length_cons]
    omega
theorem zipL_get : ∀ (xs ys : List D) (i : Nat) (d e : D), xs[i]? = some d → ys[i]? = some e → (zipL xs ys)[i]? = some (.tuple [d, e])
  | [], _, _, _, _, h, _ => by simp at h
  | x :: xs, [], _, _, _, _, h => by simp at h
  | x :: xs, y :: ys, 0, d, e, h, h' => by
    simp at h h'
    subst h h'
    rfl
  | x :: xs, y :: ys, i + 1, d, e, h, h' => by
    rw [zipL, List.getElem?_cons_succ]
    exact zipL_get xs ys i d e (by simpa using h) (by simpa using h')
theorem iter_enum {J : It} {G : Hp → Prop} (w : Walk J vs.length G (YPair (fun i => some (.int (i : Nat))) (fun i => vs[i]?))) (s : ∀ H, Same F H → Keep L H → G H) (h : DpAll K F vs xs) : IterOk K F L (enumL 0 xs) J := by
  refine ⟨G, _, by rw [enumL_len, ← h.length]; exact w, s, fun i H x H' hi s1 s2 y => ?_⟩
  obtain ⟨p, x1, x2, h1, h2, h3, h4, h5⟩ := y
  obtain ⟨d, h6, h7⟩ := h.get h5
  cases h4
  refine ⟨_, enumL_get xs 0 i d h6, .inr ⟨p, _, _, h2, h1, h3, rfl, .cons ?_ (.cons h7 .nil)⟩⟩
  rw [Nat.zero_add]
  exact .int _
theorem iter_zip {J : It} {G : Hp → Prop} (w : Walk J (min vs.length us.length) G (YPair (fun i => vs[i]?) (fun i => us[i]?))) (s : ∀ H, Same F H → Keep L H → G H) (h : DpAll K F vs xs) (h' : DpAll K F us ys) : IterOk K F L (zipL xs ys) J := by
  refine ⟨G, _, by rw [zipL_len, ← h.length, ← h'.length]; exact w, s, fun i H x H' hi s1 s2 y => ?_⟩
  obtain ⟨p, x1, x2, h1, h2, h3, h4, h5⟩ := y
  obtain ⟨d, h6, h7⟩ := h.get h4
  obtain ⟨e, h8, h9⟩ := h'.get h5
  exact ⟨_, zipL_get xs ys i d e h6 h8, .inr ⟨p, _, _, h2, h1, h3, rfl, .cons h7 (.cons h9 .nil)⟩⟩
theorem rangeL_get : ∀ (n : Nat) (lo : Int) (i : Nat), i < n → (rangeL lo n)[i]? = some (.int (lo + i))
  | 0, _, _, h => by omega
  | n + 1, lo, 0, _ => by rw [rangeL]; simp
  | n + 1, lo, i + 1, h => by
    rw [rangeL, List.getElem?_cons_succ, rangeL_get n (lo + 1) i (by omega)]
    congr 2
    omega
theorem iter_range {lo : Int} {n : Nat} : IterOk K F [] (rangeL lo n) (Itr lo n) := by
  refine ⟨_, _, by rw [rangeL_len]; exact walk_range, fun _ _ _ => trivial, fun i H x H' hi _ _ y => ?_⟩
  rw [rangeL_len] at hi
  obtain ⟨e, rfl⟩ := y
  exact ⟨_, rangeL_get n lo i hi, .inl ⟨e, .int _⟩⟩
end
theorem walk_zipT {K : PySem.W.Frag} {a b : Addr} {xs ys : List V} : Walk (RZ.ItzT K a b) (min xs.length ys.length) (fun H => SqT K H a xs ∧ SqT K H b ys) (YPair (fun i => xs[i]?) (fun i => ys[i]?)) := by
  refine ⟨fun i _ hi q => ?_, fun _ q => ⟨xs, ys, q.1, q.2, by omega⟩, fun i H v H' _ q y => ?_⟩
  · have h1 : i < xs.length := by omega
    have h2 : i < ys.length := by omega
    exact ⟨xs, ys, xs[i], ys[i], q.1, q.2, by simp [h1], by simp [h2]⟩
  · obtain ⟨p, x, y, h1, h2, h3, h4, h5⟩ := y
    exact ⟨p, x, y, h1, h2, h3, h4 xs q.1, h5 ys q.2⟩
theorem outH_I {K : PySem.W.Frag} {T : List (Addr × Str)} {cls : Nat → Addr} {W : WX} {q : Bool} {e : En} {σ : L2.St} {F H : Hp} {α : Type} {r : Out α} {g : α → En → Out (D × Fl)} {R : It → Hp → Prop} (h : GoodI K T cls W q (r.bind g) e σ F H R) : OutH K T cls W e σ F H r fun x e2 => GoodI K T cls W q (g x e2) e σ F H R := by
  cases r <;> exact h
/-- soundness of what is walked -/
def SndI (w : Nm) (ie : IE) : Prop := ∀ {T : List (Addr × Str)} {cls : Nat → Addr} {W : WX} {Φ : Fun} {C : List D} {n : Nat} {X : Cx} (c : Ctx w T cls W Φ C n X) (x tg : Expr) (tgi : IE) (sc : Scope), chkE w X.N X.env.scope ie x = true → okTg ie tgi = true → chkT X.N sc tgi tg = true → PI X tg x (tI X.K T cls W Φ C ie)
section
variable {w : Nm}
theorem pi_weak {X : Cx} {x tg : Expr} {t t' : L2.TI} (h : PI X tg x t) (i : ∀ σ H R, t' σ H R → t σ H R) : PI X tg x t' := ⟨fun pins s σ H R I q => h.run pins s σ H R I (i σ H R q)⟩
/-- a list or a tuple that was found: the lists that it leans on -/
theorem seq_iter {K : PySem.W.Frag} {T : List (Addr × Str)} {e e1 : En} {σ : L2.St} {F F1 H H1 : Hp} {x : D × Fl} {v : V} {xs : List D} (s : Step K T e σ F H e1 σ F1 H1) (r : Res K e σ H e1 σ F1 H1 x v) (hx : itemsOf x.1 = some xs) :
    ∃ F2 L a vs, v = .ref a ∧ Step K T e σ F H e1 σ F2 H1 ∧ Same F1 F2 ∧ Keep L H1 ∧ (x.2.isBr = false → L = []) ∧ DpAll K F2 vs xs ∧
      ((x.1 = .list xs ∧ ∀ G, Same F2 G → Keep L G → SqL K G a vs) ∨ (x.1 = .tuple xs ∧ ∀ G, Same F2 G → Keep L G → SqT K G a vs)) := by
  obtain ⟨d, f⟩ := x
  cases nb : f.isBr with
  | false =>
    obtain ⟨F2, s2, h2, ff⟩ := r.keep s nb
    cases d <;> first | (cases hx; done) | skip
    · cases hx
      cases h2 with
      | lst h3 h4 => exact ⟨F2, [], _, _, rfl, s2, ff, keep_nil, fun _ => rfl, h4, .inl ⟨rfl, fun G sg _ => sg.seq h3⟩⟩
    · cases hx
      cases h2 with
      | tup h3 h4 => exact ⟨F2, [], _, _, rfl, s2, ff, keep_nil, fun _ => rfl, h4, .inr ⟨rfl, fun G sg _ => seqT sg h3⟩⟩
  | true =>
    cases f <;> first | (cases nb; done) | skip
    obtain ⟨ys, a, vs, rfl, rfl, h1, h2, h3⟩ := r
    cases hx
    exact ⟨F1, [(a, vs)], a, vs, rfl, s, Same.refl _, keep_one h1, Bool.noConfusion, h2, .inl ⟨rfl, fun G _ kg => .of (kg (a, vs) List.mem_cons_self)⟩⟩
theorem sndI_gen {ie : IE} (h : Snd w ie) (ev : ∀ (Φ : Fun) (C : List D) (e : En), evalE Φ C ie .i e = evalE Φ C ie .v e) : SndI w ie := by
  intro T cls W Φ C n X c x tg tgi sct hx _ _
  refine pi_weak (pi_seq (h.e c x hx)) fun σ H R h => ?_
  obtain ⟨e, F, g, h⟩ := h
  rw [ev] at h
  refine ⟨e, F, g, ?_⟩
  cases r : evalE Φ C ie .v e with
  | stuck => rw [r] at h; exact h
  | exc cc d e1 => rw [r] at h; exact h
  | ok y e1 =>
    rw [r] at h
    intro F1 H1 v s1 r1 q1
    have h : (match itemsOf y.1 with
      | some xs => ∀ F' H' J L, Step X.K T e σ F H e1 σ F' H' → IterOk X.K F' L xs J → Keep L H' → (y.2.isBr = false → L = []) → (pure ie = true → Quiet H H') → R J H'
      | none => False) := h
    cases hy : itemsOf y.1 with
    | none => rw [hy] at h; exact h.elim
    | some xs =>
      rw [hy] at h
      obtain ⟨F2, L, a, vs, rfl, s2, ff, kp, nb, hd, k⟩ := seq_iter s1 r1 hy
      rcases k with ⟨_, k⟩ | ⟨_, k⟩
      · exact ⟨a, rfl, .inl ⟨⟨vs, k H1 s2.agr.sub kp⟩, h F2 H1 _ L s2 (iter_lst k hd) kp nb q1⟩⟩
      · exact ⟨a, rfl, .inr ⟨⟨vs, k H1 s2.agr.sub kp⟩, h F2 H1 _ L s2 (iter_tup k hd) kp nb q1⟩⟩
theorem sndI_range1 {a : IE} (ha : Snd w a) : SndI w (.range1 a) := by
  intro T cls W Φ C n X c x tg tgi sct hx _ _
  cases x <;> first | exact (Bool.false_ne_true hx).elim | skip
  rename_i g xs ks pos
  cases g <;> first | exact (Bool.false_ne_true hx).elim | skip
  rename_i f p
  match xs, ks, hx with
  | [x], [], hx =>
    have hx : (decide (f = ("range" : Str)) && glB X.env.scope f && plainX x && chkE w X.N X.env.scope a x) = true := hx
    simp only [Bool.and_eq_true, decide_eq_true_eq] at hx
    obtain ⟨⟨⟨rfl, z2⟩, z3⟩, z4⟩ := hx
    obtain ⟨g1, g2⟩ := glB_ok z2
    refine pi_weak (pi_range1 (p := p) (pos := pos) g1 (c.free _ (by decide)) (pa_cons (ha.e c x z4) pa_nil (star_cons z3)) (star_cons z3)) fun σ H R h => ?_
    obtain ⟨e, F, g, h⟩ := h
    have h : GoodI X.K T cls W (pure a) ((evalE Φ C a .v e).bind fun x e1 => match x.1 with | .int n => if inR n = true then .ok (.list (rangeL 0 n.toNat), .val) e1 else .stuck | _ => .stuck) e σ F H R := h
    refine ⟨e, F, g, good_imp (good_out (q1 := pure a) (Step.refl g) (outH_I h)) id ?_⟩
    rintro v H1 ⟨y, e1, F1, hr, s1, r1, q1, h1⟩
    obtain ⟨d, f⟩ := y
    cases d <;> first | exact h1.elim | skip
    rename_i m
    cases r1.top.int
    have h1 : GoodI X.K T cls W (pure a) (if inR m = true then Out.ok (.list (rangeL 0 m.toNat), .val) e1 else .stuck) e σ F H R := h1
    cases ir : inR m with
    | false => rw [ir] at h1; exact h1.elim
    | true =>
      rw [ir] at h1
      obtain ⟨i1, i2⟩ := inR_ok ir
      exact ⟨m, rfl, i1, i2, h1 F1 H1 _ [] s1 iter_range keep_nil (fun _ => rfl) q1⟩
theorem sndI_range2 {a b : IE} (ha : Snd w a) (hb : Snd w b) : SndI w (.range2 a b) := by
  intro T cls W Φ C n X c x tg tgi sct hx _ _
  cases x <;> first | exact (Bool.false_ne_true hx).elim | skip
  rename_i g xs ks pos
  cases g <;> first | exact (Bool.false_ne_true hx).elim | skip
  rename_i f p
  match xs, ks, hx with
  | [x, y], [], hx =>
    have hx : (decide (f = ("range" : Str)) && glB X.env.scope f && plainX x && plainX y && chkE w X.N X.env.scope a x && chkE w X.N X.env.scope b y) = true := hx
    simp only [Bool.and_eq_true, decide_eq_true_eq] at hx
    obtain ⟨⟨⟨⟨⟨rfl, z2⟩, z3⟩, z4⟩, z5⟩, z6⟩ := hx
    obtain ⟨g1, g2⟩ := glB_ok z2
    refine pi_weak (pi_range2 (p := p) (pos := pos) g1 (c.free _ (by decide)) (pa_cons (ha.e c x z5) (pa_cons (hb.e c y z6) pa_nil (star_cons z4)) (star_cons z3)) (by rw [star_cons z3, star_cons z4]; rfl) (star_cons z4)) fun σ H R h => ?_
    obtain ⟨e, F, g, h⟩ := h
    have h : GoodI X.K T cls W (pure a && pure b) ((evalE Φ C a .v e).bind fun x e1 => (evalE Φ C b .v e1).bind fun y e2 => match x.1, y.1 with
      | .int i, .int j => if (inR i && inR j) = true then .ok (.list (rangeL i (j - i).toNat), .val) e2 else .stuck
      | _, _ => .stuck) e σ F H R := h
    refine ⟨e, F, g, good_imp (good_out (q1 := pure a) (Step.refl g) (outH_I h)) id ?_⟩
    rintro v H1 ⟨y, e1, F1, hr, s1, r1, q1, h1⟩
    refine ⟨e1, F1, s1.agr, good_imp (good_out (q1 := pure b) s1 (outH_I h1)) id ?_⟩
    rintro v2 H2 ⟨y2, e2, F2, hr2, s2, r2, q2, h2⟩
    have qq : (pure a && pure b) = true → Quiet H H2 := fun q => by
      obtain ⟨w1, w2⟩ := Bool.and_eq_true_iff.mp q
      exact (q1 w1).trans (q2 w2)
    obtain ⟨d, f⟩ := y
    obtain ⟨d2, f2⟩ := y2
    cases d <;> first | exact h2.elim | (cases d2 <;> first | exact h2.elim | skip)
    rename_i m k
    have tv := r1.top.int
    cases tv
    cases r2.top.int
    have h2 : GoodI X.K T cls W (pure a && pure b) (if (inR m && inR k) = true then Out.ok (.list (rangeL m (k - m).toNat), .val) e2 else .stuck) e σ F H R := h2
    cases ir : inR m && inR k with
    | false => rw [ir] at h2; exact h2.elim
    | true =>
      rw [ir] at h2
      obtain ⟨w1, w2⟩ := Bool.and_eq_true_iff.mp ir
      obtain ⟨i1, i2⟩ := inR_ok w1
      obtain ⟨i3, i4⟩ := inR_ok w2
      exact ⟨m, k, rfl, ⟨i1, i2, i3, i4⟩, h2 F2 H2 _ [] (s1.trans s2) iter_range keep_nil (fun _ => rfl) qq⟩
theorem tup_of {N : List Str} {sc : Scope} {tgi : IE} {tg : Expr} (h : chkT N sc tgi tg = true) (t : okTg (.enumr .nil) tgi = true) : ∃ xs k p, tg = .Tuple xs k p := by
  cases tgi <;> first | (cases t; done) | skip
  cases tg <;> first | exact (Bool.false_ne_true h).elim | exact ⟨_, _, _, rfl⟩
theorem sndI_enum {a : IE} (ha : Snd w a) : SndI w (.enumr a) := by
  intro T cls W Φ C n X c x tg tgi sct hx ht hc
  obtain ⟨ts, tk, tp, rfl⟩ := tup_of hc ht
  cases x <;> first | exact (Bool.false_ne_true hx).elim | skip
  rename_i g xs ks pos
  cases g <;> first | exact (Bool.false_ne_true hx).elim | skip
  rename_i f p
  match xs, ks, hx with
  | [x], [], hx =>
    have hx : (decide (f = ("enumerate" : Str)) && glB X.env.scope f && plainX x && chkE w X.N X.env.scope a x) = true := hx
    simp only [Bool.and_eq_true, decide_eq_true_eq] at hx
    obtain ⟨⟨⟨rfl, z2⟩, z3⟩, z4⟩ := hx
    obtain ⟨g1, g2⟩ := glB_ok z2
    refine pi_weak (pi_enumA (p := p) (pos := pos) g1 (c.free _ (by decide)) (pa_cons (ha.e c x z4) pa_nil (star_cons z3)) (star_cons z3)) fun σ H R h => ?_
    obtain ⟨e, F, g, h⟩ := h
    have h : GoodI X.K T cls W (pure a) ((evalE Φ C a .v e).bind fun x e1 => match itemsOf x.1 with | some xs => .ok (.list (enumL 0 xs), x.2) e1 | none => .stuck) e σ F H R := h
    refine ⟨e, F, g, good_imp (good_out (q1 := pure a) (Step.refl g) (outH_I h)) id ?_⟩
    rintro v H1 ⟨y, e1, F1, hr, s1, r1, q1, h1⟩
    cases hy : itemsOf y.1 with
    | none => simp only [hy] at h1; exact h1.elim
    | some xs =>
      simp only [hy] at h1
      obtain ⟨F2, L, a0, vs, rfl, s2, ff, kp, nb, hd, k⟩ := seq_iter s1 r1 hy
      rcases k with ⟨_, k⟩ | ⟨_, k⟩
      · exact ⟨a0, rfl, .inl ⟨⟨vs, k H1 s2.agr.sub kp⟩, h1 F2 H1 _ L s2 (iter_enum walk_enum k hd) kp nb q1⟩⟩
      · exact ⟨a0, rfl, .inr ⟨⟨vs, k H1 s2.agr.sub kp⟩, h1 F2 H1 _ L s2 (iter_enum walk_enumT k hd) kp nb q1⟩⟩
theorem sndI_zip {a b : IE} (ha : Snd w a) (hb : Snd w b) : SndI w (.zipp a b) := by
  intro T cls W Φ C n X c x tg tgi sct hx ht hc
  obtain ⟨ts, tk, tp, rfl⟩ := tup_of hc ht
  cases x <;> first | exact (Bool.false_ne_true hx).elim | skip
  rename_i g xs ks pos
  cases g <;> first | exact (Bool.false_ne_true hx).elim | skip
  rename_i f p
  match xs, ks, hx with
  | [x, y], [], hx =>
    have hx : (decide (f = ("zip" : Str)) && glB X.env.scope f && plainX x && plainX y && chkE w X.N X.env.scope a x && chkE w X.N X.env.scope b y) = true := hx
    simp only [Bool.and_eq_true, decide_eq_true_eq] at hx
    obtain ⟨⟨⟨⟨⟨rfl, z2⟩, z3⟩, z4⟩, z5⟩, z6⟩ := hx
    obtain ⟨g1, g2⟩ := glB_ok z2
    refine pi_weak (RZ.pi_zipA (p := p) (pos := pos) g1 (c.free _ (by decide)) (pa_cons (ha.e c x z5) (pa_cons (hb.e c y z6) pa_nil (star_cons z4)) (star_cons z3)) (star_cons z3) (by rw [star_cons z4]; rfl)) fun σ H R h => ?_
    obtain ⟨e, F, g, h⟩ := h
    have h : GoodI X.K T cls W (pure a && pure b) ((evalE Φ C a .v e).bind fun x e1 => match okTwo x b with
      | true => (evalE Φ C b .v e1).bind fun y e2 => match x.1, y.1 with
        | .list xs, .list ys => .ok (.list (zipL xs ys), if x.2.isBr || y.2.isBr then .br 0 else .val) e2
        | .tuple xs, .tuple ys => .ok (.list (zipL xs ys), .val) e2
        | _, _ => .stuck
      | false => .stuck) e σ F H R := h
    refine ⟨e, F, g, good_imp (good_out (q1 := pure a) (Step.refl g) (outH_I h)) id ?_⟩
    rintro v H1 ⟨y1, e1, F1, hr, s1, r1, q1, h1⟩
    cases ok : okTwo y1 b with
    | false => simp only [ok] at h1; exact h1.elim
    | true =>
      simp only [ok] at h1
      refine ⟨e1, F1, s1.agr, good_imp (good_out (q1 := pure b) s1 (outH_I h1)) id ?_⟩
      rintro v2 H2 ⟨y2, e2, F2, hr2, s2, r2, q2, h2⟩
      have qq : (pure a && pure b) = true → Quiet H H2 := fun q => by
        obtain ⟨w1, w2⟩ := Bool.and_eq_true_iff.mp q
        exact (q1 w1).trans (q2 w2)
      obtain ⟨d, f⟩ := y1
      obtain ⟨d2, f2⟩ := y2
      cases d <;> first | exact h2.elim | (cases d2 <;> first | exact h2.elim | skip)
      · rename_i xs ys
        obtain ⟨F3, L2, a2, us, rfl, s3, ff3, kp2, nb2, hd2, k2⟩ := seq_iter s2 r2 (xs := ys) rfl
        obtain ⟨F4, L1, a1, vs, rfl, s4, ff4, kp1, nb1, hd1, k1⟩ := seq_iter (s1.trans s3) (r1.step s3 rfl (okTwo_q ok q2)) (xs := xs) rfl
        rcases k1 with ⟨_, k1⟩ | ⟨z, _⟩
        · rcases k2 with ⟨_, k2⟩ | ⟨z, _⟩
          · have cv : ∀ G, Same F4 G → Keep (L1 ++ L2) G → SqL X.K G a1 vs ∧ SqL X.K G a2 us := fun G sg kg => ⟨k1 G sg fun p hp => kg p (List.mem_append_left _ hp), k2 G (ff4.trans sg) fun p hp => kg p (List.mem_append_right _ hp)⟩
            have kp : Keep (L1 ++ L2) H2 := fun p hp => (List.mem_append.mp hp).elim (kp1 p) (kp2 p)
            refine ⟨a1, a2, vs, us, rfl, .inl ⟨(cv H2 s4.agr.sub kp).1, (cv H2 s4.agr.sub kp).2, h2 F4 H2 _ (L1 ++ L2) s4 (iter_zip (walk_zip rfl) cv hd1 (DpAll.mono ff4 hd2)) kp (fun z => ?_) qq⟩⟩
            cases c1 : f.isBr with
            | true => simp [c1] at z <;> cases z
            | false =>
              cases c2 : f2.isBr with
              | true => simp [c2] at z <;> cases z
              | false => rw [nb1 c1, nb2 c2]; rfl
          · cases z
        · cases z
      · rename_i xs ys
        obtain ⟨F3, L2, a2, us, rfl, s3, ff3, kp2, nb2, hd2, k2⟩ := seq_iter s2 r2 (xs := ys) rfl
        obtain ⟨F4, L1, a1, vs, rfl, s4, ff4, kp1, nb1, hd1, k1⟩ := seq_iter (s1.trans s3) (r1.step s3 rfl (okTwo_q ok q2)) (xs := xs) rfl
        have b1 : f.isBr = false := by
          cases f <;> first | rfl | skip
          obtain ⟨_, _, _, z, _⟩ := r1
          cases z
        have b2 : f2.isBr = false := by
          cases f2 <;> first | rfl | skip
          obtain ⟨_, _, _, z, _⟩ := r2
          cases z
        have l1 := nb1 b1
        have l2 := nb2 b2
        subst l1 l2
        rcases k1 with ⟨z, _⟩ | ⟨_, k1⟩
        · cases z
        · rcases k2 with ⟨z, _⟩ | ⟨_, k2⟩
          · cases z
          · have cv : ∀ G, Same F4 G → Keep [] G → SqT X.K G a1 vs ∧ SqT X.K G a2 us := fun G sg kg => ⟨k1 G sg kg, k2 G (ff4.trans sg) kg⟩
            exact ⟨a1, a2, vs, us, rfl, .inr ⟨(cv H2 s4.agr.sub keep_nil).1, (cv H2 s4.agr.sub keep_nil).2, h2 F4 H2 _ [] s4 (iter_zip walk_zipT cv hd1 (DpAll.mono ff4 hd2)) keep_nil (fun _ => rfl) qq⟩⟩
end
end TI

set_option Elab.async false
set_option autoImplicit false
set_option maxRecDepth 100000
set_option maxHeartbeats 8000000
set_option linter.all false
/-! TI18: targets take values. -/
namespace TI
open PySem PySem.Spec PyProof.Rows L2
/-- what a store leaves as it was -/
structure Bnd (l : List Nat) (e : En) (σ : L2.St) (e' : En) (σ' : L2.St) : Prop where
  len : σ'.length = σ.length
  same : ∀ i, i ∉ l → σ'[i]? = σ[i]? ∧ e'[i]? = e[i]?
  val : ∀ i ∈ l, ∃ d, e'[i]? = some (.val d)
  io : ∀ (i : Nat) (xs : List D), e[i]? = some (.io xs) → i ∉ l
theorem Bnd.trans {l m : List Nat} {e e1 e2 : En} {σ σ1 σ2 : L2.St} (a : Bnd l e σ e1 σ1) (b : Bnd m e1 σ1 e2 σ2) : Bnd (l ++ m) e σ e2 σ2 := by
  refine ⟨b.len.trans a.len, fun i h => ?_, fun i h => ?_, fun i xs h => ?_⟩
  · rw [List.mem_append, not_or] at h
    exact ⟨(b.same i h.2).1.trans (a.same i h.1).1, (b.same i h.2).2.trans (a.same i h.1).2⟩
  · by_cases hm : i ∈ m
    · exact b.val i hm
    · rcases List.mem_append.mp h with h | h
      · obtain ⟨d, hd⟩ := a.val i h
        exact ⟨d, by rw [(b.same i hm).2]; exact hd⟩
      · exact absurd h hm
  · have h1 := a.io i xs h
    rw [List.mem_append, not_or]
    exact ⟨h1, b.io i xs (by rw [(a.same i h1).2]; exact h)⟩
section
variable {K : PySem.W.Frag} {T : List (Addr × Str)} {e e' : En} {σ σ' : L2.St} {F H : Hp} {v : V} {d : D}
theorem agr_val (g : Agr K T e σ F H) (h : Dp K F v d) (i : Nat) (li : i < e.length) : Agr K T (e.set i (.val d)) (σ.set i (some v)) F H := by
  have ls : i < σ.length := by rw [← g.len]; exact li
  have un : ∀ (j : Nat) (s : Slot) (xs : List D), (e.set i (.val d))[j]? = some s → held s = some xs → j ≠ i ∧ e[j]? = some s := fun j s xs h1 h2 => by
    rcases get_set h1 with ⟨_, z⟩ | h3
    · subst z; cases h2
    · exact h3
  refine ⟨by rw [List.length_set, List.length_set]; exact g.len, fun j s q => ?_, fun j k s t xs ys q1 q2 q3 q4 ne => ?_, g.sub, g.noT, g.tab⟩
  · rcases get_set q with ⟨rfl, rfl⟩ | ⟨n, q⟩
    · exact ⟨some v, List.getElem?_set_self ls, v, rfl, h⟩
    · obtain ⟨o, h1, h2⟩ := g.slots j s q
      exact ⟨o, by rw [List.getElem?_set_ne (fun z => n z.symm)]; exact h1, h2⟩
  · obtain ⟨n1, q1⟩ := un j s xs q1 q3
    obtain ⟨n2, q2⟩ := un k t ys q2 q4
    rw [List.getElem?_set_ne (fun z => n1 z.symm), List.getElem?_set_ne (fun z => n2 z.symm)]
    exact g.dis j k s t xs ys q1 q2 q3 q4 ne
/-- a store is a step -/
theorem step_bnd {l : List Nat} {e0 : En} {σ0 : L2.St} {F0 H0 : Hp} (s : Step K T e0 σ0 F0 H0 e σ F H) (g : Agr K T e' σ' F H) (b : Bnd l e σ e' σ') : Step K T e0 σ0 F0 H0 e' σ' F H := by
  refine ⟨s.ff, s.keep, s.out, fun a ⟨i, t, xs, h1, h2, h3⟩ => ?_, g, fun i xs h => ?_, s.there⟩
  · have ni : i ∉ l := fun z => by
      obtain ⟨d, hd⟩ := b.val i z
      rw [hd] at h1
      cases h1
      cases h2
    exact s.own a ⟨i, t, xs, by rw [← (b.same i ni).2]; exact h1, h2, by rw [← (b.same i ni).1]; exact h3⟩
  · obtain ⟨⟨ys, h1⟩, h2⟩ := s.io i xs h
    have ni := b.io i ys h1
    exact ⟨⟨ys, by rw [(b.same i ni).2]; exact h1⟩, (b.same i ni).1.trans h2⟩
end
section
variable (K : PySem.W.Frag) (T : List (Addr × Str))
def tG (tg : IE) : TG := fun v σ H Q => ∃ e F d e', Agr K T e σ F H ∧ Dp K F v d ∧ bindT tg d e = some e' ∧ ∀ σ', Agr K T e' σ' F H → Bnd (tgts tg) e σ e' σ' → Q σ' H
def tGs (tg : IE) : TGs := fun vs σ H Q => ∃ e F ds e', Agr K T e σ F H ∧ DpAll K F vs ds ∧ bindT.bindTs tg ds e = some e' ∧ ∀ σ', Agr K T e' σ' F H → Bnd (tgts tg) e σ e' σ' → Q σ' H
end
theorem assign_cons {N : List Str} {sc : Scope} {tg : IE} {x : Expr} (h : chkT N sc tg x = true) (xs : List Expr) (env : Env) : assignEach (x :: xs) env = (false, assign x env) :: assignEach xs env := by
  cases tg <;> first | (cases x <;> exact (Bool.false_ne_true h).elim) | (cases x <;> first | rfl | exact (Bool.false_ne_true h).elim)
theorem assigns_plain {N : List Str} {sc : Scope} (env : Env) : ∀ {es : IE} {xs : List Expr}, chkT.chkTs N sc es xs = true → (assignEach xs env).length = xs.length ∧ (assignEach xs env).findIdx? (·.1) = none
  | .nil, [], _ => ⟨rfl, rfl⟩
  | .cons t r, x :: xs, h => by
    have h : (chkT N sc t x && chkT.chkTs N sc r xs) = true := h
    obtain ⟨h1, h2⟩ := Bool.and_eq_true_iff.mp h
    obtain ⟨h3, h4⟩ := assigns_plain env h2
    rw [assign_cons h1]
    refine ⟨by rw [List.length_cons, List.length_cons, h3], ?_⟩
    rw [List.findIdx?_cons, h4]
    rfl
theorem pg_tg {X : Cx} {T : List (Addr × Str)} {sc : Scope} (nd : X.N.Nodup) (calm : X.calm = true) (loc : ∀ x, locB sc x = true → Loc X.env.scope x ∧ (X.fn x = true ∨ X.env.scope.names.lookup x = some .local)) : ∀ tg : IE,
    (∀ x, chkT X.N sc tg x = true → PG X x (tG X.K T tg)) ∧ (∀ xs, chkT.chkTs X.N sc tg xs = true → PGs X xs (tGs X.K T tg)) := by
  intro tg
  induction tg with
  | var i =>
    refine ⟨fun x h => ?_, fun xs h => by cases xs <;> exact (Bool.false_ne_true h).elim⟩
    cases x <;> first | exact (Bool.false_ne_true h).elim | skip
    rename_i x p
    have h : (decide (X.N[i]? = some x) && locB sc x) = true := h
    obtain ⟨h1, h2⟩ := Bool.and_eq_true_iff.mp h
    refine ⟨fun pins s σ H v u Q I r q => (pg_name (pos := p) nd (of_decide_eq_true h1) (loc x h2).1 (loc x h2).2).run pins s σ H v u Q I r ?_⟩
    obtain ⟨e, F, d, e', g, hd, hb, k⟩ := q
    unfold bindT at hb
    split at hb
    · rename_i li
      have hb : (match e[i]? with | some (.io _) => none | _ => some (e.set i (.val d))) = some e' := hb
      have nio : ∀ xs, e[i]? ≠ some (.io xs) := fun xs z => by
        rw [z] at hb
        cases hb
      have e1 : e' = e.set i (.val d) := by
        split at hb
        · cases hb
        · exact (Option.some.inj hb).symm
      subst e1
      have ls : i < σ.length := by rw [← g.len]; exact li
      refine k _ (agr_val g hd i li) ⟨List.length_set, fun j hj => ?_, fun j hj => ?_, fun j xs hj z => ?_⟩
      · have nj : i ≠ j := fun z => hj (z ▸ List.mem_cons_self)
        rw [List.getElem?_set_ne nj, List.getElem?_set_ne nj]
        exact ⟨rfl, rfl⟩
      · rw [List.mem_singleton.mp hj]
        exact ⟨d, List.getElem?_set_self li⟩
      · rw [List.mem_singleton.mp z] at hj
        exact nio xs hj
    · cases hb
  | tup es ih =>
    refine ⟨fun x h => ?_, fun xs h => by cases xs <;> exact (Bool.false_ne_true h).elim⟩
    cases x <;> first | exact (Bool.false_ne_true h).elim | skip
    rename_i xs k p
    have h : chkT.chkTs X.N sc es xs = true := h
    obtain ⟨h1, h2⟩ := assigns_plain X.env h
    refine ⟨fun pins s σ H v u Q I r q => (pg_tup (pos := p) (k := k) (n := xs.length) calm (ih.2 xs h) h1 h2).run pins s σ H v u Q I r ?_⟩
    obtain ⟨e, F, d, e', g, hd, hb, kk⟩ := q
    cases d <;> first | (cases hb; done) | skip
    rename_i ds
    have hb : bindT.bindTs es ds e = some e' := hb
    cases hd with
    | tup q1 q2 =>
      rename_i a vs
      refine ⟨a, vs, rfl, seqT g.sub q1, ?_, e, F, ds, e', g, q2, hb, kk⟩
      rw [q2.length]
      have ln : ∀ (es : IE) (ds : List D) (e e' : En) (xs : List Expr), bindT.bindTs es ds e = some e' → chkT.chkTs X.N sc es xs = true → ds.length = xs.length := by
        intro es
        induction es with
        | nil =>
          intro ds e e' xs z1 z2
          cases ds <;> cases xs <;> first | rfl | (cases z1; done) | exact (Bool.false_ne_true z2).elim
        | cons t r _ ih =>
          intro ds e e' xs z1 z2
          cases ds <;> cases xs <;> first | (cases z1; done) | exact (Bool.false_ne_true z2).elim | skip
          rename_i d0 ds x0 xs
          obtain ⟨w1, w2⟩ := Bool.and_eq_true_iff.mp (show (chkT X.N sc t x0 && chkT.chkTs X.N sc r xs) = true from z2)
          obtain ⟨e1, w3, w4⟩ := Option.bind_eq_some_iff.mp (show (bindT t d0 e).bind (fun e1 => bindT.bindTs r ds e1) = some e' from z1)
          rw [List.length_cons, List.length_cons, ih ds e1 e' xs w4 w2]
        | _ =>
          intro ds e e' xs z1 z2
          cases ds <;> (cases z1)
      exact ln es ds e e' xs hb h
  | nil =>
    refine ⟨fun x h => by cases x <;> exact (Bool.false_ne_true h).elim, fun xs h => ?_⟩
    cases xs <;> first | exact (Bool.false_ne_true h).elim | skip
    refine ⟨fun pins s σ H vs us Q I r q => pgs_nil.run pins s σ H vs us Q I r ?_⟩
    obtain ⟨e, F, ds, e', g, hd, hb, kk⟩ := q
    cases ds <;> first | (cases hb; done) | skip
    cases hd
    cases hb
    exact ⟨rfl, kk σ g ⟨rfl, fun i _ => ⟨rfl, rfl⟩, fun i h => (nomatch h), fun i xs _ h => (nomatch h)⟩⟩
  | cons t r iht ihr =>
    refine ⟨fun x h => by cases x <;> exact (Bool.false_ne_true h).elim, fun xs h => ?_⟩
    cases xs <;> first | exact (Bool.false_ne_true h).elim | skip
    rename_i x xs
    obtain ⟨h1, h2⟩ := Bool.and_eq_true_iff.mp (show (chkT X.N sc t x && chkT.chkTs X.N sc r xs) = true from h)
    refine ⟨fun pins s σ H vs us Q I rv q => (pgs_cons (iht.1 x h1) (ihr.2 xs h2) (by rw [assign_cons h1]; rfl)).run pins s σ H vs us Q I rv ?_⟩
    obtain ⟨e, F, ds, e', g, hd, hb, kk⟩ := q
    cases ds <;> first | (cases hb; done) | skip
    rename_i d0 ds
    obtain ⟨e1, w3, w4⟩ := Option.bind_eq_some_iff.mp (show (bindT t d0 e).bind (fun e1 => bindT.bindTs r ds e1) = some e' from hb)
    cases hd with
    | cons a b =>
      rename_i v0 vs0
      exact ⟨v0, vs0, rfl, e, F, d0, e1, g, a, w3, fun σ1 g1 b1 => ⟨e1, F, ds, e', g1, b, w4, fun σ2 g2 b2 => kk σ2 g2 (b1.trans b2)⟩⟩
  | _ => exact ⟨fun x h => by cases x <;> exact (Bool.false_ne_true h).elim, fun xs h => by cases xs <;> exact (Bool.false_ne_true h).elim⟩
end TI

set_option Elab.async false
set_option autoImplicit false
set_option maxRecDepth 100000
set_option maxHeartbeats 8000000
set_option linter.all false
/-! TI19: comprehensions. -/
namespace TI
open PySem PySem.Spec PyProof.Rows L2
theorem wipeE_len (e : En) : ∀ vs : List Nat, (wipeE e vs).length = e.length
  | [] => rfl
  | v :: vs => by unfold wipeE; rw [List.length_set, wipeE_len e vs]
theorem wipeE_out {e : En} {i : Nat} : ∀ {vs : List Nat}, i ∉ vs → (wipeE e vs)[i]? = e[i]?
  | [], _ => rfl
  | v :: vs, h => by
    rw [List.mem_cons, not_or] at h
    unfold wipeE
    rw [List.getElem?_set_ne (fun z => h.1 z.symm)]
    exact wipeE_out h.2
theorem wipeE_in {e : En} {i : Nat} : ∀ {vs : List Nat}, i ∈ vs → i < e.length → (wipeE e vs)[i]? = some .emp
  | v :: vs, h, li => by
    unfold wipeE
    by_cases hv : v = i
    · subst hv
      exact List.getElem?_set_self (by rw [wipeE_len]; exact li)
    · rw [List.getElem?_set_ne hv]
      rcases List.mem_cons.mp h with z | z
      · exact absurd z.symm hv
      · exact wipeE_in z li
theorem wipe_in {σ : L2.St} {i : Nat} : ∀ {vs : List Nat}, i ∈ vs → i < σ.length → (wipe σ vs)[i]? = some none
  | v :: vs, h, li => by
    unfold wipe
    by_cases hv : v = i
    · subst hv
      exact List.getElem?_set_self (by rw [wipe_length]; exact li)
    · rw [List.getElem?_set_ne hv]
      rcases List.mem_cons.mp h with z | z
      · exact absurd z.symm hv
      · exact wipe_in z li
theorem backE_len (e0 e : En) : ∀ vs : List Nat, (backE e0 e vs).length = e.length
  | [] => rfl
  | v :: vs => by unfold backE; rw [List.length_set, backE_len e0 e vs]
theorem backE_out {e0 e : En} {i : Nat} : ∀ {vs : List Nat}, i ∉ vs → (backE e0 e vs)[i]? = e[i]?
  | [], _ => rfl
  | v :: vs, h => by
    rw [List.mem_cons, not_or] at h
    unfold backE
    rw [List.getElem?_set_ne (fun z => h.1 z.symm)]
    exact backE_out h.2
theorem backE_in {e0 e : En} {i : Nat} (le : e0.length = e.length) : ∀ {vs : List Nat}, i ∈ vs → i < e.length → (backE e0 e vs)[i]? = e0[i]?
  | v :: vs, h, li => by
    unfold backE
    by_cases hv : v = i
    · subst hv
      rw [List.getElem?_set_self (by rw [backE_len]; exact li), List.getD_eq_getElem?_getD, List.getElem?_eq_getElem (by omega)]
      rfl
    · rw [List.getElem?_set_ne hv]
      rcases List.mem_cons.mp h with z | z
      · exact absurd z.symm hv
      · exact backE_in le z li
theorem wipe_eq {σ σ' : L2.St} {vs : List Nat} (l : σ'.length = σ.length) (h : ∀ i, i ∉ vs → σ'[i]? = σ[i]?) : wipe σ' vs = wipe σ vs := by
  refine List.ext_getElem? fun i => ?_
  by_cases hi : i ∈ vs
  · by_cases li : i < σ.length
    · rw [wipe_in hi li, wipe_in hi (by omega)]
    · rw [List.getElem?_eq_none (by rw [wipe_length]; omega), List.getElem?_eq_none (by rw [wipe_length]; omega)]
  · rw [wipe_out hi, wipe_out hi, h i hi]
section
variable {K : PySem.W.Frag} {T : List (Addr × Str)} {e e' e0 e1 e6 : En} {σ σ' σ0 : L2.St} {F F0 F1 F6 H H0 H1 H6 : Hp} {vs : List Nat}
theorem wipe_own {a : Addr} (h : Own (wipeE e vs) (wipe σ vs) a) (le : e.length = σ.length) : ∃ i s xs, i ∉ vs ∧ e[i]? = some s ∧ held s = some xs ∧ σ[i]? = some (some (.ref a)) := by
  obtain ⟨i, s, xs, h1, h2, h3⟩ := h
  have ni : i ∉ vs := fun z => by
    have li : i < e.length := by
      have := (List.getElem?_eq_some_iff.mp h1).1
      rw [wipeE_len] at this
      exact this
    rw [wipeE_in z li] at h1
    cases h1
    cases h2
  rw [wipeE_out ni] at h1
  rw [wipe_out ni] at h3
  exact ⟨i, s, xs, ni, h1, h2, h3⟩
theorem agr_wipe (g : Agr K T e σ F H) (vs : List Nat) : Agr K T (wipeE e vs) (wipe σ vs) F H := by
  have un : ∀ (j : Nat) (s : Slot) (xs : List D), (wipeE e vs)[j]? = some s → held s = some xs → j ∉ vs ∧ e[j]? = some s := fun j s xs h1 h2 => by
    have nj : j ∉ vs := fun z => by
      have lj : j < e.length := by
        have := (List.getElem?_eq_some_iff.mp h1).1
        rw [wipeE_len] at this
        exact this
      rw [wipeE_in z lj] at h1
      cases h1
      cases h2
    rw [wipeE_out nj] at h1
    exact ⟨nj, h1⟩
  refine ⟨by rw [wipeE_len, wipe_length]; exact g.len, fun j s q => ?_, fun j k s t xs ys q1 q2 q3 q4 ne => ?_, g.sub, g.noT, g.tab⟩
  · by_cases hj : j ∈ vs
    · have lj : j < e.length := by
        have := (List.getElem?_eq_some_iff.mp q).1
        rw [wipeE_len] at this
        exact this
      rw [wipeE_in hj lj] at q
      cases q
      exact ⟨none, wipe_in hj (by rw [← g.len]; exact lj), trivial⟩
    · rw [wipeE_out hj] at q
      rw [wipe_out hj]
      exact g.slots j s q
  · obtain ⟨n1, q1⟩ := un j s xs q1 q3
    obtain ⟨n2, q2⟩ := un k t ys q2 q4
    rw [wipe_out n1, wipe_out n2]
    exact g.dis j k s t xs ys q1 q2 q3 q4 ne
theorem step_wipe (s : Step K T e0 σ0 F0 H0 e σ F H) (io : ∀ (i : Nat) (xs : List D), e0[i]? = some (.io xs) → i ∉ vs) : Step K T e0 σ0 F0 H0 (wipeE e vs) (wipe σ vs) F H := by
  refine ⟨s.ff, s.keep, s.out, fun a h => ?_, agr_wipe s.agr vs, fun i xs h => ?_, s.there⟩
  · obtain ⟨i, t, xs, _, h1, h2, h3⟩ := wipe_own h s.agr.len
    exact s.own a ⟨i, t, xs, h1, h2, h3⟩
  · obtain ⟨⟨ys, h1⟩, h2⟩ := s.io i xs h
    have ni := io i xs h
    exact ⟨⟨ys, by rw [wipeE_out ni]; exact h1⟩, by rw [wipe_out ni]; exact h2⟩
/-- a list that stands outside all that is told changes -/
theorem step_hid {D0 : Addr} {vs0 ws : List V} (s : Step K T e0 σ0 F0 H0 e σ F H) (n0 : H0 D0 = none) (h : H D0 = some (.lst vs0)) (f : F D0 = none) (no : ¬ Own e σ D0) : Step K T e0 σ0 F0 H0 e σ F (upd H D0 (.lst ws)) := by
  have ne : ∀ b u, F b = some u → b ≠ D0 := fun b u q z => by
    subst z
    rw [f] at q
    cases q
  refine ⟨s.ff, fun a o q n nt => ?_, s.out, s.own, ⟨s.agr.len, fun i t q => ?_, s.agr.dis, fun b u q => by rw [upd_ne (ne b u q)]; exact s.agr.sub b u q, s.agr.noT, tabs_lst s.agr.tab h⟩, s.io, fun a q => ?_⟩
  · rw [upd_ne (fun z => by subst z; rw [n0] at q; cases q)]
    exact s.keep a o q n nt
  · obtain ⟨o, h1, h2⟩ := s.agr.slots i t q
    refine ⟨o, h1, h2.mono (Same.refl F) fun a xs z1 z2 => ?_⟩
    subst z2
    have na : a ≠ D0 := fun z => no (z ▸ ⟨i, t, xs, q, z1, h1⟩)
    refine ⟨upd_ne na, ?_⟩
    obtain ⟨b, us, y1, y2, _⟩ := s.agr.holds q z1
    rw [h1] at y1
    cases y1
    exact y2
  · by_cases z : a = D0
    · subst z
      rw [upd_same]
      simp
    · rw [upd_ne z]
      exact s.there a q
/-- behind a comprehension -/
theorem step_back (s1 : Step K T e σ F H e1 σ F1 H1) (s : Step K T (wipeE e1 vs) (wipe σ vs) F1 H1 e6 (wipe σ vs) F6 H6) (io : ∀ (i : Nat) (xs : List D), e1[i]? = some (.io xs) → i ∉ vs) : Step K T e σ F H (backE e1 e6 vs) σ F6 H6 := by
  have le : e1.length = e6.length := by
    have := s.agr.len
    rw [wipe_length] at this
    rw [this]
    exact s1.agr.len
  -- a slot of the end is the comprehension's or one of the start
  have at_ : ∀ (i : Nat) (t : Slot), (backE e1 e6 vs)[i]? = some t → (i ∉ vs ∧ e6[i]? = some t) ∨ (i ∈ vs ∧ e1[i]? = some t) := fun i t h => by
    by_cases hi : i ∈ vs
    · have li : i < e6.length := by
        have := (List.getElem?_eq_some_iff.mp h).1
        rw [backE_len] at this
        exact this
      rw [backE_in le hi li] at h
      exact .inr ⟨hi, h⟩
    · rw [backE_out hi] at h
      exact .inl ⟨hi, h⟩
  -- a list of a name of the comprehension's own is no other name's
  have alone : ∀ (i : Nat) (t : Slot) (xs : List D) (a : Addr), i ∈ vs → e1[i]? = some t → held t = some xs → σ[i]? = some (some (.ref a)) → ¬ Own (wipeE e1 vs) (wipe σ vs) a := fun i t xs a hi h1 h2 h3 o => by
    obtain ⟨j, u, ys, nj, q1, q2, q3⟩ := wipe_own o s1.agr.len
    exact s1.agr.dis i j t u xs ys h1 q1 h2 q2 (fun z => nj (z ▸ hi)) (h3.trans q3.symm)
  have kept : ∀ (i : Nat) (t : Slot) (xs : List D) (a : Addr), i ∈ vs → e1[i]? = some t → held t = some xs → σ[i]? = some (some (.ref a)) → H6 a = H1 a ∧ F6 a = none := fun i t xs a hi h1 h2 h3 => by
    obtain ⟨b, us, q1, q2, q3, _⟩ := s1.agr.holds h1 h2
    rw [h3] at q1
    cases q1
    have no := alone i t xs a hi h1 h2 h3
    exact ⟨by rw [q3]; exact s.keep a _ q3 no (by intro ps z; cases z), s.out a _ q3 q2 no⟩
  refine ⟨s1.ff.trans s.ff, fun a o q n nt => ?_, fun a o q f n => ?_, fun a ⟨i, t, xs, h1, h2, h3⟩ => ?_, ⟨by rw [backE_len, ← le]; exact s1.agr.len, fun i t q => ?_, fun i j t u xs ys q1 q2 q3 q4 ne => ?_, s.agr.sub, s.agr.noT, s.agr.tab⟩, fun i xs q => ?_, fun a q => s.there a (s1.there a q)⟩
  · have h0 : H a ≠ none := by rw [q]; simp
    have n1 : ¬ Own e1 σ a := fun z => (s1.own a z).elim n h0
    exact s.keep a o (s1.keep a o q n nt) (fun z => by
      obtain ⟨j, u, ys, _, q1, q2, q3⟩ := wipe_own z s1.agr.len
      exact n1 ⟨j, u, ys, q1, q2, q3⟩) nt
  · have h0 : H a ≠ none := by rw [q]; simp
    have n1 : ¬ Own e1 σ a := fun z => (s1.own a z).elim n h0
    have n2 : ¬ Own (wipeE e1 vs) (wipe σ vs) a := fun z => by
      obtain ⟨j, u, ys, _, q1, q2, q3⟩ := wipe_own z s1.agr.len
      exact n1 ⟨j, u, ys, q1, q2, q3⟩
    cases z : H1 a with
    | none => exact absurd z (s1.there a h0)
    | some o' => exact s.out a o' z (s1.out a o q f n) n2
  · rcases at_ i t h1 with ⟨ni, h1⟩ | ⟨hi, h1⟩
    · rcases s.own a ⟨i, t, xs, h1, h2, by rw [wipe_out ni]; exact h3⟩ with z | z
      · obtain ⟨j, u, ys, _, q1, q2, q3⟩ := wipe_own z s1.agr.len
        exact s1.own a ⟨j, u, ys, q1, q2, q3⟩
      · refine .inr ?_
        cases y : H a with
        | none => rfl
        | some o' => exact absurd z (s1.there a (by rw [y]; simp))
    · exact s1.own a ⟨i, t, xs, h1, h2, h3⟩
  · rcases at_ i t q with ⟨ni, q⟩ | ⟨hi, q⟩
    · obtain ⟨o, h1, h2⟩ := s.agr.slots i t q
      rw [wipe_out ni] at h1
      exact ⟨o, h1, h2⟩
    · obtain ⟨o, h1, h2⟩ := s1.agr.slots i t q
      refine ⟨o, h1, h2.mono s.ff fun a xs z1 z2 => ?_⟩
      subst z2
      exact kept i t xs a hi q z1 h1
  · rcases at_ i t q1 with ⟨ni, q1⟩ | ⟨hi, q1⟩
    · rcases at_ j u q2 with ⟨nj, q2⟩ | ⟨hj, q2⟩
      · have := s.agr.dis i j t u xs ys q1 q2 q3 q4 ne
        rw [wipe_out ni, wipe_out nj] at this
        exact this
      · intro z
        obtain ⟨a, us, y1, y2, y3, _⟩ := s1.agr.holds q2 q4
        have no := alone j u ys a hj q2 q4 y1
        rcases s.own a ⟨i, t, xs, q1, q3, by rw [wipe_out ni, z]; exact y1⟩ with w | w
        · exact no w
        · rw [y3] at w; cases w
    · rcases at_ j u q2 with ⟨nj, q2⟩ | ⟨hj, q2⟩
      · intro z
        obtain ⟨a, us, y1, y2, y3, _⟩ := s1.agr.holds q1 q3
        have no := alone i t xs a hi q1 q3 y1
        rcases s.own a ⟨j, u, ys, q2, q4, by rw [wipe_out nj, ← z]; exact y1⟩ with w | w
        · exact no w
        · rw [y3] at w; cases w
      · exact s1.agr.dis i j t u xs ys q1 q2 q3 q4 ne
  · obtain ⟨⟨ys, h1⟩, h2⟩ := s1.io i xs q
    have ni := io i ys h1
    obtain ⟨⟨zs, h3⟩, _⟩ := s.io i ys (by rw [wipeE_out ni]; exact h1)
    exact ⟨⟨zs, by rw [backE_out ni]; exact h3⟩, rfl⟩
end
end TI

set_option Elab.async false
set_option autoImplicit false
set_option maxRecDepth 100000
set_option maxHeartbeats 8000000
set_option linter.all false
/-! TI20: comprehensions run as their trees say. -/
namespace TI
open PySem PySem.Spec PyProof.Rows L2
section
variable {K : PySem.W.Frag} {T : List (Addr × Str)} {cls : Nat → Addr} {W : WX} {q q1 : Bool} {e e1 : En} {σ : L2.St} {F F1 H H1 : Hp}
theorem good_outI {r : Out (D × Fl)} {Z : D × Fl → En → Prop} (s : Step K T e σ F H e1 σ F1 H1) (h : OutH K T cls W e σ F H r Z) (hz : ∀ x e2, Z x e2 → itemsOf x.1 ≠ none) :
    GoodI K T cls W q1 r e1 σ F1 H1 (fun J H2 => ∃ x e2 F2 L xs, r = .ok x e2 ∧ itemsOf x.1 = some xs ∧ Step K T e1 σ F1 H1 e2 σ F2 H2 ∧ IterOk K F2 L xs J ∧ Keep L H2 ∧ (x.2.isBr = false → L = []) ∧ (q1 = true → Quiet H1 H2) ∧ Z x e2) := by
  cases r with
  | stuck => exact h
  | exc c d e2 => exact fun F2 H2 dx v s2 => h F2 H2 dx v (s.trans s2)
  | ok x e2 =>
    have h : Z x e2 := h
    have hn := hz x e2 h
    show (match itemsOf x.1 with | some xs => _ | none => False)
    cases hx : itemsOf x.1 with
    | none => exact absurd hx hn
    | some xs => exact fun F2 H2 J L s2 io kp nb qq => ⟨x, e2, F2, L, xs, rfl, hx, s2, io, kp, nb, qq, h⟩
end
theorem good_impI {K : PySem.W.Frag} {T : List (Addr × Str)} {cls : Nat → Addr} {W : WX} {q : Bool} {e : En} {σ : L2.St} {F H : Hp} {r : Out (D × Fl)} {R R' : It → Hp → Prop} (h : GoodI K T cls W q r e σ F H R) (i : ∀ J H', R J H' → R' J H') : GoodI K T cls W q r e σ F H R' := by
  cases r with
  | stuck => exact h
  | exc c d e2 => exact h
  | ok x e2 =>
    unfold GoodI at h ⊢
    cases hx : itemsOf x.1 with
    | none => simp only [hx] at h
    | some xs =>
      simp only [hx] at h ⊢
      exact fun F' H' J L s io kp nb qq => i _ _ (h F' H' J L s io kp nb qq)
theorem noIo_out {e : En} {l : List Nat} (h : noIo e l = true) (i : Nat) (xs : List D) (hi : e[i]? = some (.io xs)) : i ∉ l := fun z => by
  have := List.all_eq_true.mp h i z
  rw [hi] at this
  cases this
theorem back_slot {e1 e6 : En} {vs : List Nat} (le : e1.length = e6.length) {i : Nat} {t : Slot} (h : (backE e1 e6 vs)[i]? = some t) : (i ∉ vs ∧ e6[i]? = some t) ∨ (i ∈ vs ∧ e1[i]? = some t) := by
  by_cases hi : i ∈ vs
  · have li : i < e6.length := by
      have q := (List.getElem?_eq_some_iff.mp h).1
      rw [backE_len] at q
      exact q
    rw [backE_in le hi li] at h
    exact .inr ⟨hi, h⟩
  · rw [backE_out hi] at h
    exact .inl ⟨hi, h⟩
def WF : WX := fun _ _ _ _ => False
section
variable {w : Nm} {T : List (Addr × Str)} {cls : Nat → Addr} {W : WX} {Φ : Fun} {C : List D} {n : Nat} {X : Cx}
/-- a comprehension's block -/
theorem Ctx.blk (c : Ctx w T cls W Φ C n X) (s : Shared) (H : Hp) (scope : Scope) (cl : List (Str × Addr)) (a : Addr) (fp : List Addr) : Ctx w.off T cls WF Φ C n (X.blk s H scope (compEnvC scope cl a X.env) fp) where
  nd := c.nd
  room := c.room
  calm := c.calm
  tk := fun u s' ⟨_, _, _, _, _, _, _, _, _, _, _, _, _, _, _, _, f⟩ => f
  fns := c.fns
  cons := c.cons
  clen := c.clen
  free := c.free
  gcd := c.gcd
  kl := c.kl
  tld := fun z => absurd z Bool.false_ne_true
theorem blk_loc {s : Shared} {H : Hp} {scope : Scope} {cl : List (Str × Addr)} {a : Addr} {fp : List Addr} (x : Str) (h : locB scope x = true) :
    Loc (X.blk s H scope (compEnvC scope cl a X.env) fp).env.scope x ∧ ((X.blk s H scope (compEnvC scope cl a X.env) fp).fn x = true ∨ (X.blk s H scope (compEnvC scope cl a X.env) fp).env.scope.names.lookup x = some .local) := by
  unfold locB at h
  split at h
  · rename_i e
    have k : (relS scope X.env.scope).names.lookup x = some .local := lookup_relS_keep (by intro z; cases z) e
    exact ⟨.inl k, .inr k⟩
  · rename_i e
    have k : (relS scope X.env.scope).names.lookup x = some .cell := lookup_relS_keep (by intro z; cases z) e
    exact ⟨.inr k, .inl (by show (scope.names.lookup x == some NameKind.cell) = true; rw [e]; rfl)⟩
  · cases h
end
section
variable {w : Nm}
/-- one turn of a comprehension, in trees -/
def turnF (Φ : Fun) (C : List D) (tg ifs elt : IE) (own : List Nat) (d : D) (e2 : En) : Out (Option D) := match bindT tg d e2 with
  | some e3 => (tstE ifs (evalE Φ C ifs .t e3) e3).bind fun b e4 => match b with
    | true => (keepR (evalE Φ C elt .v e4)).bind fun y e5 => .ok (some y) (wipeE e5 own)
    | false => .ok none (wipeE e4 own)
  | none => .stuck
theorem comp_ev (Φ : Fun) (C : List D) (tg it ifs elt : IE) (own : List Nat) (m : Md) (e : En) : evalE Φ C (.comp tg it ifs elt own) m e = (evalE Φ C it .i e).bind fun x e1 => match itemsOf x.1 with
    | some xs => if xs.length ≤ lim ∧ noIo e1 own = true then (noExc (compL (turnF Φ C tg ifs elt own) xs (wipeE e1 own))).bind fun ys e6 => .ok (.list ys, .fr) (backE e1 e6 own) else .stuck
    | none => .stuck := rfl
theorem compL_cons {f : D → En → Out (Option D)} {x : D} {r : List D} {e e6 : En} {zs : List D} (h : compL f (x :: r) e = .ok zs e6) : ∃ y e1 ys, f x e = .ok y e1 ∧ compL f r e1 = .ok ys e6 ∧ zs = y.toList ++ ys := by
  have h : ((f x e).bind fun y e1 => (compL f r e1).bind fun ys e2 => .ok (y.toList ++ ys) e2) = Out.ok zs e6 := h
  cases h1 : f x e with
  | stuck => rw [h1] at h; cases h
  | exc c d e1 => rw [h1] at h; cases h
  | ok y e1 =>
    rw [h1] at h
    have h : ((compL f r e1).bind fun ys e2 => .ok (y.toList ++ ys) e2) = Out.ok zs e6 := h
    cases h2 : compL f r e1 with
    | stuck => rw [h2] at h; cases h
    | exc c d e2 => rw [h2] at h; cases h
    | ok ys e2 =>
      rw [h2] at h
      cases h
      exact ⟨y, e1, ys, rfl, h2, rfl⟩
/-- what a comprehension is made of -/
theorem comp_parts {tg it ifs elt : IE} {own : List Nat} (hi : SndI w it) (hf : isNil ifs = false → Snd w.off ifs) (he : Snd w.off elt) {T : List (Addr × Str)} {cls : Nat → Addr} {W : WX} {Φ : Fun} {C : List D} {n : Nat} {X : Cx} (c : Ctx w T cls W Φ C n X) {x : Expr} {gs : List Comprehension} {cs : Scope} {p : Pos}
    (hx : chkE w X.N X.env.scope (.comp tg it ifs elt own) (.ListComp x gs cs p) = true) : ∃ (t i : Expr) (fs : List Expr) (wi : L2.TI) (g : TG) (tt : TT) (te : TE) (ow : List (Str × Nat)), gs = [⟨t, i, fs, 0⟩] ∧ PI X t i wi ∧ BlkOk X.N X.env.scope cs ow ∧ ow.map (·.2) = own ∧
      (∀ (s : Shared) (H : Hp) (a : Addr) (cl : List (Str × Addr)) (fp : List Addr), PG (X.blk s H cs (compEnvC cs cl a X.env) fp) t g) ∧ (∀ (s : Shared) (H : Hp) (a : Addr) (cl : List (Str × Addr)) (fp : List Addr), PTs (X.blk s H cs (compEnvC cs cl a X.env) fp) fs tt) ∧
      (∀ (s : Shared) (H : Hp) (a : Addr) (cl : List (Str × Addr)) (fp : List Addr), PE (X.blk s H cs (compEnvC cs cl a X.env) fp) x te) ∧ noSet i = true ∧ ∀ σ H Q, tE X.K T cls W Φ C .v (.comp tg it ifs elt own) σ H Q → tLc wi g tt te own σ H Q := by
    match gs, hx with
    | [⟨t, i, fs, 0⟩], hx =>
    have hx : (chkE w X.N X.env.scope it i && noSet i && okTg it tg && blkC X.N X.env.scope cs (own.map fun j => (X.N.getD j "", j)) && decide (tgts tg = own) && chkT X.N cs tg t && (match (generalizing := false) fs with
        | [] => isNil ifs
        | [f] => !isNil ifs && chkE w.off X.N (relS cs X.env.scope) ifs f && chkB ifs
        | _ => false) && chkE w.off X.N (relS cs X.env.scope) elt x && pure elt && pure ifs) = true := hx
    simp only [Bool.and_eq_true, decide_eq_true_eq] at hx
    obtain ⟨⟨⟨⟨⟨⟨⟨⟨⟨k1, k2⟩, k3⟩, k4⟩, k5⟩, k6⟩, k7⟩, k8⟩, k9⟩, k10⟩ := hx
    have ov : (own.map fun j => (X.N.getD j "", j)).map (·.2) = own := by
      rw [List.map_map]
      exact List.map_id _
    have tests : ∃ tt : TT, (∀ (s : Shared) (H : Hp) (a : Addr) (cl : List (Str × Addr)) (fp : List Addr), PTs (X.blk s H cs (compEnvC cs cl a X.env) fp) fs tt) ∧
        ∀ {σ : L2.St} {H : Hp} {e : En} {F : Hp} {b : Bool} {e4 : En} {Q : Bool → Hp → Prop}, Agr X.K T e σ F H → tstE ifs (evalE Φ C ifs .t e) e = .ok b e4 → (∀ F' H', Step X.K T e σ F H e4 σ F' H' → Quiet H H' → Q b H') → tt σ H Q := by
      match fs, k7 with
      | [], k7 =>
        have hn : isNil ifs = true := k7
        refine ⟨tYes, fun _ _ _ _ _ => pts_nil, fun {σ H e F b e4 Q} g hb k => ?_⟩
        cases ifs <;> first | (cases hn; done) | skip
        cases hb
        exact k F H (Step.refl g) (Quiet.refl H)
      | [f], k7 =>
        have k7 : (!isNil ifs && chkE w.off X.N (relS cs X.env.scope) ifs f && chkB ifs) = true := k7
        simp only [Bool.and_eq_true] at k7
        obtain ⟨⟨m1, m2⟩, m3⟩ := k7
        have m1 : isNil ifs = false := by simpa using m1
        refine ⟨tT X.K T cls WF Φ C ifs, fun s H a cl fp => pts_one ((hf m1).t (c.blk s H cs cl a fp) f m2 m3), fun {σ H e F b e4 Q} g hb k => ?_⟩
        have hb : asB (evalE Φ C ifs .t e) = .ok b e4 := by
          cases ifs <;> first | (cases m1; done) | exact hb
        refine ⟨e, F, g, ?_⟩
        rw [hb]
        exact fun F' H' s1 q1 => k F' H' s1 (q1 k10)
    obtain ⟨tt, tt1, tt2⟩ := tests
    refine ⟨t, i, fs, tI X.K T cls W Φ C it, tG X.K T tg, tt, tE X.K T cls WF Φ C .v elt, own.map fun j => (X.N.getD j "", j), rfl, hi c i t tg cs k1 k3 k6, blkOk_by k4, ov, (fun s H a cl fp => (pg_tg (T := T) (sc := cs) (X := X.blk s H cs (compEnvC cs cl a X.env) fp) c.nd c.calm blk_loc tg).1 t k6), tt1, (fun s H a cl fp => he.e (c.blk s H cs cl a fp) x k8), k2, fun σ H Q h => ?_⟩
    obtain ⟨e, F, g, h⟩ := h
    rw [comp_ev] at h
    refine ⟨e, F, g, ?_⟩
    refine good_impI (good_outI (q1 := pure it) (Step.refl g) (outH_E h) fun y e2 hz hn => by rw [hn] at hz; exact hz) ?_
    rintro J H1 ⟨y, e1, F1, L, xs, hr, hy, s1, io, kp, nb, q1, h1⟩
    rw [hy] at h1
    have h1 : GoodE X.K T cls W (pure (.comp tg it ifs elt own)) (if xs.length ≤ lim ∧ noIo e1 own = true then (noExc (compL (turnF Φ C tg ifs elt own) xs (wipeE e1 own))).bind fun ys e6 => Out.ok (.list ys, .fr) (backE e1 e6 own) else .stuck) e σ F H Q := h1
    split at h1
    · rename_i hz
      have nio := noIo_out hz.2
      cases hcl : compL (turnF Φ C tg ifs elt own) xs (wipeE e1 own) with
      | stuck => rw [hcl] at h1; exact h1.elim
      | exc cc dd e6 => rw [hcl] at h1; exact h1.elim
      | ok ys e6 =>
        rw [hcl] at h1
        have h1 : ∀ F' H' v, Step X.K T e σ F H (backE e1 e6 own) σ F' H' → Res X.K e σ H (backE e1 e6 own) σ F' H' (.list ys, .fr) v → (pure (.comp tg it ifs elt own) = true → Quiet H H') → Q v H' := h1
        intro D hD
        obtain ⟨G, Y, wk, gk, yk⟩ := io
        have sw : Step X.K T (wipeE e1 own) (wipe σ own) F1 H1 (wipeE e1 own) (wipe σ own) F1 H1 := Step.refl (agr_wipe s1.agr own)
        have noD : ¬ Own (wipeE e1 own) (wipe σ own) D := fun z => by
          obtain ⟨_, us, q⟩ := sw.agr.own_at z
          rw [hD] at q
          cases q
        refine lc_it wk (g := tG X.K T tg) (tt := tt) (te := tE X.K T cls WF Φ C .v elt) (vs := own) (σ := σ)
          (fun i H2 => ∃ ei Fi acc done, Step X.K T (wipeE e1 own) (wipe σ own) F1 H1 ei (wipe σ own) Fi H2 ∧ H2 D = some (.lst acc) ∧ Fi D = none ∧ ¬ Own ei (wipe σ own) D ∧ DpAll X.K Fi acc done ∧ acc.length ≤ i ∧
            (∃ rest, compL (turnF Φ C tg ifs elt own) (xs.drop i) ei = .ok rest e6 ∧ ys = done ++ rest) ∧ Quiet H1 H2) ?_ ?_ ?_ ?_
        · exact ⟨wipeE e1 own, F1, [], [], sw.new hD, upd_same, s1.agr.sub.free hD, noD, .nil, Nat.le_refl _, ⟨ys, hcl, rfl⟩, quiet_upd hD⟩
        · rintro i H2 _ ⟨ei, Fi, acc, done, s2, _, _, _, _, _, _, q2⟩
          exact gk H2 (fun a o z => s2.agr.sub a o (s2.ff a o z)) fun p hp => q2 _ _ (kp p hp) (by intro ps z; cases z)
        · rintro i x0 H2 H3 hi ⟨ei, Fi, acc, done, s2, a1, a2, a3, a4, a5, ⟨rest, a6, a7⟩, q2⟩ hY
          obtain ⟨d, hd, yo⟩ := yk i H2 x0 H3 hi (fun a o z => s2.agr.sub a o (s2.ff a o z)) (fun p hp => q2 _ _ (kp p hp) (by intro ps z; cases z)) hY
          -- the item stands
          obtain ⟨F3, s3, dx, D3, f3, ff3, q3⟩ : ∃ F3, Step X.K T (wipeE e1 own) (wipe σ own) F1 H1 ei (wipe σ own) F3 H3 ∧ Dp X.K F3 x0 d ∧ H3 D = some (.lst acc) ∧ F3 D = none ∧ Same Fi F3 ∧ Quiet H2 H3 := by
            rcases yo with ⟨rfl, hx0⟩ | ⟨p0, ws, ds, hp, rfl, rfl, rfl, hds⟩
            · exact ⟨Fi, s2, Dp.mono s2.ff hx0, a1, a2, Same.refl _, Quiet.refl _⟩
            · have nd : D ≠ p0 := fun z => by subst z; rw [a1] at hp; cases hp
              have fp := s2.agr.sub.free hp
              exact ⟨_, s2.newKnown (o := .tup ws) hp (by intro ps z; cases z), .tup (.of upd_same) (DpAll.mono (same_upd fp) (DpAll.mono s2.ff hds)), by rw [upd_ne nd]; exact a1, by rw [upd_ne nd]; exact a2, same_upd fp, quiet_upd hp⟩
          have dr : xs.drop i = d :: xs.drop (i + 1) := by
            obtain ⟨lt, e0⟩ := List.getElem?_eq_some_iff.mp hd
            rw [← e0]
            exact List.drop_eq_getElem_cons lt
          rw [dr] at a6
          obtain ⟨y0, ej, rest', b1, b2, b3⟩ := compL_cons a6
          unfold turnF at b1
          cases hb : bindT tg d ei with
          | none => rw [hb] at b1; cases b1
          | some e3 =>
            rw [hb] at b1
            have b1 : ((tstE ifs (evalE Φ C ifs .t e3) e3).bind fun b e4 => match b with
              | true => (keepR (evalE Φ C elt .v e4)).bind fun y e5 => Out.ok (some y) (wipeE e5 own)
              | false => .ok none (wipeE e4 own)) = .ok y0 ej := b1
            refine ⟨ei, F3, d, e3, s3.agr, dx, hb, fun σ2 g2 bn => ?_⟩
            rw [k5] at bn
            have ws : wipe σ2 own = wipe (wipe σ own) own := wipe_eq bn.len fun j hj => (bn.same j hj).1
            have ww : wipe (wipe σ own) own = wipe σ own := wipe_eq (wipe_length σ own) fun j hj => wipe_out hj
            rw [ww] at ws
            have s4 := step_bnd s3 g2 bn
            have no4 : ¬ Own e3 σ2 D := fun ⟨j, t, zs, z1, z2, z3⟩ => by
              have nj : j ∉ own := fun z => by
                obtain ⟨dd, hdd⟩ := bn.val j z
                rw [hdd] at z1
                cases z1
                cases z2
              have no3 : ¬ Own ei (wipe σ own) D := a3
              exact no3 ⟨j, t, zs, by rw [← (bn.same j nj).2]; exact z1, z2, by rw [← (bn.same j nj).1]; exact z3⟩
            have io0 : ∀ (j : Nat) (zs : List TI.D), (wipeE e1 own)[j]? = some (.io zs) → j ∉ own := fun j zs z z2 => by
              have lj : j < e1.length := by
                have := (List.getElem?_eq_some_iff.mp z).1
                rw [wipeE_len] at this
                exact this
              rw [wipeE_in z2 lj] at z
              cases z
            refine ⟨ws, ?_⟩
            cases hts : tstE ifs (evalE Φ C ifs .t e3) e3 with
            | stuck => rw [hts] at b1; cases b1
            | exc cc dd e4 => rw [hts] at b1; cases b1
            | ok b e4 =>
              rw [hts] at b1
              refine tt2 g2 hts fun F4 H4 s5 q4 => ?_
              have D4 : H4 D = some (.lst acc) := s5.keep D _ D3 no4 (by intro ps z; cases z)
              have f4 : F4 D = none := s5.out D _ D3 f3 no4
              have no5 : ¬ Own e4 σ2 D := fun z => (s5.own D z).elim no4 fun z => by rw [D3] at z; cases z
              cases b with
              | false =>
                rw [if_neg Bool.false_ne_true]
                have b1 : Out.ok none (wipeE e4 own) = Out.ok y0 ej := b1
                cases b1
                have s6 := step_wipe (vs := own) (s4.trans s5) io0
                rw [ws] at s6
                refine ⟨wipeE e4 own, F4, acc, done, s6, D4, f4, fun z => ?_, DpAll.mono s5.ff (DpAll.mono ff3 a4), by omega, ⟨rest', b2, by rw [a7, b3]; rfl⟩, (q2.trans q3).trans q4⟩
                rw [← ws] at z
                obtain ⟨j, t, zs, _, z1, z2, z3⟩ := wipe_own z s5.agr.len
                exact no5 ⟨j, t, zs, z1, z2, z3⟩
              | true =>
                rw [if_pos rfl]
                have b1 : ((keepR (evalE Φ C elt .v e4)).bind fun y e5 => Out.ok (some y) (wipeE e5 own)) = .ok y0 ej := b1
                have ok1 : OutH X.K T cls WF e4 σ2 F4 H4 (keepR (evalE Φ C elt .v e4)) fun y e5 => y0 = some y ∧ ej = wipeE e5 own := by
                  cases hk : keepR (evalE Φ C elt .v e4) with
                  | stuck => rw [hk] at b1; cases b1
                  | exc cc dd e5 => rw [hk] at b1; cases b1
                  | ok y e5 => rw [hk] at b1; cases b1; exact ⟨rfl, rfl⟩
                refine ⟨e4, F4, s5.agr, good_imp (good_keep (q1 := pure elt) (Step.refl s5.agr) ok1) id ?_⟩
                rintro v H5 ⟨y, e5, F5, hr5, s6, r6, q6, rfl, rfl⟩
                have D5 : H5 D = some (.lst acc) := s6.keep D _ D4 no5 (by intro ps z; cases z)
                have f5 : F5 D = none := s6.out D _ D4 f4 no5
                have no6 : ¬ Own e5 σ2 D := fun z => (s6.own D z).elim no5 fun z => by rw [D4] at z; cases z
                have s7 := step_wipe (vs := own) ((s4.trans s5).trans s6) io0
                rw [ws] at s7
                have no7 : ¬ Own (wipeE e5 own) (wipe σ own) D := fun z => by
                  rw [← ws] at z
                  obtain ⟨j, t, zs, _, z1, z2, z3⟩ := wipe_own z s6.agr.len
                  exact no6 ⟨j, t, zs, z1, z2, z3⟩
                refine ⟨acc, D5, ?_, wipeE e5 own, F5, acc ++ [v], done ++ [y], step_hid s7 hD D5 f5 no7, upd_same, f5, no7, (DpAll.mono s6.ff (DpAll.mono s5.ff (DpAll.mono ff3 a4))).append (.cons r6 .nil), by rw [List.length_append]; exact Nat.succ_le_succ a5, ⟨rest', b2, by rw [a7, b3, List.append_assoc]; rfl⟩, fun b o z nt => ?_⟩
                · rw [← lim_eq]
                  exact Nat.lt_of_le_of_lt a5 (Nat.lt_of_lt_of_le hi hz.1)
                · have nb2 : b ≠ D := fun z2 => by subst z2; rw [hD] at z; cases z
                  rw [upd_ne nb2]
                  exact (((q2.trans q3).trans q4).trans (q6 k9)) b o z nt
        · rintro H2 ⟨ei, Fi, acc, done, s2, a1, a2, a3, a4, a5, ⟨rest, a6, a7⟩, q2⟩
          rw [List.drop_length] at a6
          cases a6
          have s3 := step_back s1 s2 nio
          have hD0 : H D = none := by
            cases z : H D with
            | none => rfl
            | some o => exact absurd hD (s1.there D (by rw [z]; simp))
          rw [List.append_nil] at a7
          subst a7
          refine h1 Fi H2 (.ref D) s3 ⟨ys, D, acc, rfl, rfl, a2, a1, a4, fun z => ?_, .inl hD0⟩ fun q => ?_
          · obtain ⟨j, t, zs, z1, z2, z3⟩ := z
            have le : e1.length = e6.length := by
              have q := s2.agr.len
              rw [wipe_length] at q
              rw [q]
              exact s1.agr.len
            rcases back_slot le z1 with ⟨nj, z1⟩ | ⟨hj, z1⟩
            · exact a3 ⟨j, t, zs, z1, z2, by rw [wipe_out nj]; exact z3⟩
            · obtain ⟨b, us, w1, w2, w3, _⟩ := s1.agr.holds z1 z2
              rw [z3] at w1
              cases w1
              rw [hD] at w3
              cases w3
          · have q : (pure tg && pure it && pure ifs && pure elt) = true := q
            simp only [Bool.and_eq_true] at q
            exact (q1 q.1.1.2).trans q2
    · exact h1.elim
theorem snd_comp {tg it ifs elt : IE} {own : List Nat} (hi : SndI w it) (hf : isNil ifs = false → Snd w.off ifs) (he : Snd w.off elt) : Snd w (.comp tg it ifs elt own) := by
  have E : ∀ {T : List (Addr × Str)} {cls : Nat → Addr} {W : WX} {Φ : Fun} {C : List D} {n : Nat} {X : Cx} (c : Ctx w T cls W Φ C n X) (x : Expr), chkE w X.N X.env.scope (.comp tg it ifs elt own) x = true → PE X x (tE X.K T cls W Φ C .v (.comp tg it ifs elt own)) ∧ testX x = true := by
    intro T cls W Φ C n X c x hx
    cases x <;> first | exact (Bool.false_ne_true hx).elim | skip
    rename_i x gs cs p
    obtain ⟨t, i, fs, wi, g, tt, te, ow, rfl, p1, p2, p3, p4, p5, p6, p7, p8⟩ := comp_parts hi hf he c hx
    subst p3
    exact ⟨pe_weakT (pe_lc (pos := p) c.calm c.nd p1 p2 p4 p5 p6 (fun _ => folded_plain p7)) p8, rfl⟩
  exact ⟨fun c x hx => (E c x hx).1, fun c x hx _ => pt_gen (E c x hx).1 (E c x hx).2 fun _ => rfl⟩
end
end TI

set_option Elab.async false
set_option autoImplicit false
set_option maxRecDepth 100000
set_option maxHeartbeats 8000000
set_option linter.all false
/-! TI21: every expression runs as its tree says. -/
namespace TI
open PySem PySem.Spec PyProof.Rows L2
section
variable {w : Nm}
/-- a form that no text has -/
theorem snd_no {ie : IE} (h : ∀ (N : List Str) (sc : Scope) (x : Expr), chkE w N sc ie x = false) : Snd w ie :=
  ⟨fun c x hx => absurd hx (by rw [h]; exact Bool.false_ne_true), fun c x hx _ => absurd hx (by rw [h]; exact Bool.false_ne_true)⟩
theorem snds_no {ie : IE} (h : ∀ (N : List Str) (sc : Scope) (xs : List Expr), chkS w N sc ie xs = false) : SndS w ie :=
  ⟨fun c x hx _ => absurd hx (by rw [h]; exact Bool.false_ne_true), fun c x hx _ => absurd hx (by rw [h]; exact Bool.false_ne_true), fun c x hx _ => absurd hx (by rw [h]; exact Bool.false_ne_true)⟩
theorem sndI_no {ie : IE} (h : ∀ (N : List Str) (sc : Scope) (x : Expr), chkE w N sc ie x = false) : SndI w ie :=
  fun c x tg tgi sc hx _ _ => absurd hx (by rw [h]; exact Bool.false_ne_true)
/-- a form that has no value -/
theorem snd_dead {ie : IE} (h : ∀ (Φ : Fun) (C : List D) (e : En), evalE Φ C ie .v e = .stuck ∧ evalE Φ C ie .t e = .stuck) : Snd w ie := by
  refine ⟨fun {T cls W Φ C n X} c x hx => ⟨fun pins s σ H Q I q => ?_⟩, fun {T cls W Φ C n X} c x hx _ => ⟨fun pins s σ H Q I q => ?_⟩⟩
  · obtain ⟨e, F, g, q⟩ := q
    rw [(h Φ C e).1] at q
    exact q.elim
  · obtain ⟨e, F, g, q⟩ := q
    rw [(h Φ C e).2] at q
    exact q.elim
theorem sndI_dead {ie : IE} (h : ∀ (Φ : Fun) (C : List D) (e : En), evalE Φ C ie .i e = .stuck) : SndI w ie := by
  intro T cls W Φ C n X c x tg tgi sc hx _ _
  refine ⟨fun pins s σ H R I q => ?_⟩
  obtain ⟨e, F, g, q⟩ := q
  rw [h Φ C e] at q
  exact q.elim
theorem no_S {ie : IE} (h : (match ie with | .nil => false | .cons _ _ => false | _ => true) = true) : SndS w ie := by
  cases ie <;> first | (cases h; done) | exact snds_no fun N sc xs => by cases xs <;> rfl
/-- a lambda's body -/
theorem Ctx.lam {T : List (Addr × Str)} {cls : Nat → Addr} {W : WX} {Φ : Fun} {C : List D} {n : Nat} {X : Cx} (c : Ctx w T cls W Φ C n X) {A : Around} {outer : List Env} {s : Shared} {H : Hp} {E : XK} {cs : Scope} {f c' : Addr}
    (hr : Room (n + 5) (A.deeper (LamX.lamEnv X cs s.heap.objs.size f c'))) : Ctx w.off T cls (fun k d _ H => E k d H) Φ C n (lamN X A outer s H E cs f c') where
  nd := c.nd
  room := hr
  calm := rfl
  tk := L2N.takes_of rfl rfl rfl rfl
  fns := c.fns
  cons := c.cons
  clen := c.clen
  free := c.free
  gcd := c.gcd
  kl := c.kl
  tld := fun z => absurd z Bool.false_ne_true
theorem noArgs_of {ps : Arguments} (h : isNoArgs ps = true) : ps = noArgs := by
  unfold isNoArgs at h
  split at h
  · rfl
  · cases h
/-- the state behind a lambda's making -/
theorem agr_lam {K : PySem.W.Frag} {T : List (Addr × Str)} {e : En} {σ : L2.St} {F H H1 : Hp} (g : Agr K T e σ F H) (x : LamX.ExtN H H1) (t : TabX T H1) (th : ∀ a, H a ≠ none → H1 a ≠ none) : Step K T e σ F H e σ F H1 := by
  have ff : Same F H1 := fun a o q => x a o (g.sub a o q) fun ps z => g.noT a ps (by rw [q, z])
  refine ⟨Same.refl F, fun a o q _ nt => x a o q nt, fun _ _ _ q _ => q, fun _ z => .inl z, ⟨g.len, fun i s q => ?_, g.dis, ff, g.noT, t⟩, fun i xs q => ⟨⟨xs, q⟩, rfl⟩, th⟩
  obtain ⟨o, h1, h2⟩ := g.slots i s q
  refine ⟨o, h1, h2.mono (Same.refl F) fun a xs hs ho => ?_⟩
  obtain ⟨b, vs, k1, k2, k3, k4⟩ := g.holds q hs
  rw [h1, ho] at k1
  cases k1
  exact ⟨(x a _ k3 (by intro ps z; cases z)).trans k3.symm, k2⟩
theorem snd_told (ns : List (Nat × Str)) {a : IE} (ha : Snd w.off a) : Snd w (.told ns a) := by
  have E : ∀ {T : List (Addr × Str)} {cls : Nat → Addr} {W : WX} {Φ : Fun} {C : List D} {n : Nat} {X : Cx} (c : Ctx w T cls W Φ C n X) (x : Expr), chkE w X.N X.env.scope (.told ns a) x = true → PE X x (tE X.K T cls W Φ C .v (.told ns a)) ∧ testX x = true := by
    intro T cls W Φ C n X c x hx
    cases x <;> first | exact (Bool.false_ne_true hx).elim | skip
    rename_i g xs ks pos
    match g, xs, ks, hx with
    | .Name f p, [.Lambda ps x cs lp], [], hx =>
      have hx : (w.lam && decide (ns = w.tn) && decide (f = ("_law_told_by" : Str)) && glB X.env.scope f && isNoArgs ps && LamX.lamSB X.env.scope cs && chkE w.off X.N cs a x) = true := hx
      simp only [Bool.and_eq_true, decide_eq_true_eq] at hx
      obtain ⟨⟨⟨⟨⟨⟨h1, h2⟩, h3⟩, h4⟩, h5⟩, h6⟩, h7⟩ := hx
      subst h2 h3
      rw [noArgs_of h5]
      refine ⟨pe_weakT (c.tld h1 x cs lp p pos (fun E => tE X.K T cls (fun k d _ H => E k d H) Φ C .v a) h6 h4 fun A outer s H E f c' hr => ha.e (c.lam hr) x h7) fun σ H Q h => ?_, rfl⟩
      obtain ⟨e, F, g, h⟩ := h
      refine ⟨g.tab, fun H1 x1 t1 th => ?_⟩
      have s1 := agr_lam g x1 t1 th
      have h : GoodE X.K T cls W false (match keepR (evalE Φ C a .v e) with
        | .ok d e1 => .ok (.tuple [.str "told", d], .val) e1
        | .exc k d e1 => (match w.tn.lookup k with
          | some z => .ok (.tuple [.str z, d], .val) e1
          | none => .stuck)
        | .stuck => .stuck) e σ F H Q := h
      refine ⟨e, F, s1.agr, good_imp (q1 := pure a) (good_keep (q1 := pure a) (X := fun d e1 => keepR (evalE Φ C a .v e) = .ok d e1) (Step.refl s1.agr) ?_) id ?_⟩
      · cases r : keepR (evalE Φ C a .v e) with
        | ok d e1 => exact rfl
        | stuck => rw [r] at h; exact h.elim
        | exc k d e1 =>
          rw [r] at h
          intro F2 H2 dx v s2 z1 z2
          cases hz : w.tn.lookup k with
          | none => simp only [hz] at h; exact h.elim
          | some z =>
            simp only [hz] at h
            refine ⟨k, dx, v, z, rfl, hz, rfl, z1, fun H3 x3 => ⟨pair_small _ _, fun p hp => ?_⟩⟩
            have s3 := s1.trans s2
            have s4 : Step X.K T e σ F H e1 σ F2 H3 := s3.more x3
            exact h _ _ _ (s4.newKnown (o := .tup [.str z, v]) hp (by intro _ y; cases y)) (.tup (.of upd_same) (.cons (.str z) (.cons (Dp.mono (same_upd (s4.agr.sub.free hp)) z2) .nil))) fun y => nomatch y
      · rintro v H2 ⟨d, e1, F2, hr, s2, d2, q2, hr2⟩
        refine ⟨pair_small _ _, fun p hp => ?_⟩
        rw [hr2] at h
        have s3 := s1.trans s2
        exact h _ _ _ (s3.newKnown (o := .tup [.str "told", v]) hp (by intro _ y; cases y)) (.tup (.of upd_same) (.cons (.str "told") (.cons (Dp.mono (same_upd (s3.agr.sub.free hp)) d2) .nil))) fun y => nomatch y
  exact ⟨fun c x hx => (E c x hx).1, fun c x hx _ => pt_gen (E c x hx).1 (E c x hx).2 fun _ => rfl⟩
/-! ### exact tuples by name -/
theorem conOk_one {cc : Const} (h : conOk (.int 1) cc = true) : cc = .int 1 := by
  cases cc <;> first | exact (Bool.false_ne_true h).elim | skip
  have h : (1 : Int) = _ := of_decide_eq_true h
  rw [← h]
theorem call_tupX {X : Cx} : CallR X (.type "tuple") (fun xs H Q => ∃ p ys, xs = [.ref p] ∧ SqL X.K H p ys ∧ ∀ l o, H l = none → o.dict = none → Q (.ref l) (upd H l (.frz o (.tup ys)))) := by
  intro pins s σ H xs us Q I r h
  obtain ⟨p, ys, rfl, hq, q⟩ := h
  obtain ⟨u, rfl, rx⟩ := r.one
  cases rx
  obtain ⟨its, rv, pl, hz⟩ := I.list hq
  have le := rv.length
  refine call_tuple_list pl.isList (fun g kp => ?_) (by simp only [List.size_toArray] <;> omega)
  have J : Inv X pins σ H { s with heap := g } := I.kept (t' := s.toks) kp
  exact ⟨.ref g.objs.size, _, J.laid (t' := s.toks) (o := .frz { cls := .type "tuple", data := .seq its.toArray } (.tup ys)) (fun b u e => Heap.get?_push_of_some _ e) (Nat.le_refl _) ⟨Heap.get?_push_size _ rfl, hz, its, rv, ⟨_, Heap.get?_push_size _ rfl, rfl, _, rfl⟩⟩, rfl, q _ _ (J.hok.fresh (Nat.le_refl _)) rfl⟩
theorem snd_tupx {a : IE} (ha : Snd w a) : Snd w (.tupx a) := by
  have E : ∀ {T : List (Addr × Str)} {cls : Nat → Addr} {W : WX} {Φ : Fun} {C : List D} {n : Nat} {X : Cx} (c : Ctx w T cls W Φ C n X) (x : Expr), chkE w X.N X.env.scope (.tupx a) x = true → PE X x (tE X.K T cls W Φ C .v (.tupx a)) ∧ testX x = true := by
    intro T cls W Φ C n X c x hx
    cases x <;> first | exact (Bool.false_ne_true hx).elim | skip
    rename_i g xs ks pos
    match g, xs, ks, hx with
    | .Name f p, [x], [], hx =>
      have hx : (decide (f = ("tuple" : Str)) && glB X.env.scope f && plainX x && chkE w X.N X.env.scope a x) = true := hx
      simp only [Bool.and_eq_true, decide_eq_true_eq] at hx
      obtain ⟨⟨⟨rfl, h2⟩, h3⟩, h4⟩ := hx
      obtain ⟨g1, g2⟩ := glB_ok h2
      refine ⟨pe_weakT (pe_callTy (p := p) (pos := pos) call_tupX g1 (c.free _ (by decide)) PyProof.Rows.boot_tuple (pa_cons (ha.e c x h4) pa_nil (star_cons h3)) (by decide) (by decide) (star_cons h3) (back_plain rfl)) fun σ H Q h => ?_, rfl⟩
      obtain ⟨e, F, g, h⟩ := h
      unfold evalE at h
      refine good_imp (q1 := pure a) (good_seq (q1 := pure a) (Step.refl g) h) id ?_ |> fun z => ⟨e, F, g, z⟩
      rintro v H1 ⟨y, e1, F1, hr, s1, r1, q1, h1⟩
      obtain ⟨d, fl⟩ := y
      cases d <;> first | exact h1.elim | skip
      rename_i ds
      obtain ⟨q, vs, rfl, hs, hd⟩ := r1.top.lst s1.agr.sub
      refine ⟨q, vs, rfl, hs, fun l o hl ho => ?_⟩
      have s2 := s1.newKnown (o := .frz o (.tup vs)) hl (by intro ps z; cases z)
      exact h1 _ _ _ s2 ⟨.tup (.inl (.inr ⟨o, upd_same⟩)) (DpAll.mono (same_upd (s1.agr.sub.free hl)) hd), l, o, _, rfl, upd_same, ho⟩ fun z => (q1 z).trans (quiet_upd hl)
  exact ⟨fun c x hx => (E c x hx).1, fun c x hx _ => pt_gen (E c x hx).1 (E c x hx).2 fun _ => rfl⟩
theorem snd_ix1 (i : Nat) : Snd w (.ix1 i) := by
  have E : ∀ {T : List (Addr × Str)} {cls : Nat → Addr} {W : WX} {Φ : Fun} {C : List D} {n : Nat} {X : Cx} (c : Ctx w T cls W Φ C n X) (x : Expr), chkE w X.N X.env.scope (.ix1 i) x = true → PE X x (tE X.K T cls W Φ C .v (.ix1 i)) ∧ testX x = true := by
    intro T cls W Φ C n X c x hx
    cases x <;> first | exact (Bool.false_ne_true hx).elim | skip
    rename_i l r p
    match l, r, hx with
    | .Name y p2, .Constant cc k p3, hx =>
      have hx : (decide (X.N[i]? = some y) && visB X.env.scope y && !(y == ("__debug__" : Str)) && !(y == ("__classdict__" : Str)) && conOk (.int 1) cc) = true := hx
      simp only [Bool.and_eq_true, decide_eq_true_eq, Bool.not_eq_true'] at hx
      obtain ⟨⟨⟨⟨h1, h2⟩, h3⟩, h4⟩, h5⟩ := hx
      obtain rfl := conOk_one h5
      refine ⟨pe_weakT (pe_ix (pos := p) ix_seq (pe_var (pos := p2) h1 (visB_ok h2) h3 h4) (pe_int (i := 1) (j := k) (pos := p3)) (ix_plain rfl)) fun σ H Q h => ?_, rfl⟩
      obtain ⟨e, F, g, h⟩ := h
      unfold evalE at h
      cases q : e[i]? with
      | none => rw [q] at h; exact h.elim
      | some sl =>
        rw [q] at h
        cases sl <;> first | exact h.elim | skip
        rename_i d
        obtain ⟨o, k1, v, rfl, k2, b, v0, v1, d0, d1, rfl, rfl, k3, k4, k5⟩ := g.slots i _ q
        exact ⟨.ref b, k1, .inr (.inl ⟨b, [v0, v1], 1, v1, rfl, rfl, seqT g.sub k3, rfl, h F H v1 (Step.refl g) ⟨k4, k5⟩ fun _ => Quiet.refl H⟩)⟩
  exact ⟨fun c x hx => (E c x hx).1, fun c x hx _ => pt_gen (E c x hx).1 (E c x hx).2 fun _ => rfl⟩
theorem snd_tup1 {a : IE} (i : Nat) (ha : Snd w a) : Snd w (.tup1 a i) := by
  have E : ∀ {T : List (Addr × Str)} {cls : Nat → Addr} {W : WX} {Φ : Fun} {C : List D} {n : Nat} {X : Cx} (c : Ctx w T cls W Φ C n X) (x : Expr), chkE w X.N X.env.scope (.tup1 a i) x = true → PE X x (tE X.K T cls W Φ C .v (.tup1 a i)) ∧ testX x = true := by
    intro T cls W Φ C n X c x hx
    cases x <;> first | exact (Bool.false_ne_true hx).elim | skip
    rename_i xs k p
    match xs, hx with
    | [x, .Name y p2], hx =>
      have hx : (chkE w X.N X.env.scope a x && plainX x && decide (X.N[i]? = some y) && visB X.env.scope y && !(y == ("__debug__" : Str)) && !(y == ("__classdict__" : Str))) = true := hx
      simp only [Bool.and_eq_true, decide_eq_true_eq, Bool.not_eq_true'] at hx
      obtain ⟨⟨⟨⟨⟨h5, h6⟩, h1⟩, h2⟩, h3⟩, h4⟩ := hx
      refine ⟨pe_weakT (pe_tup (pos := p) (x1 := k) (pa_cons (ha.e c x h5) (pa_cons (pe_var (pos := p2) h1 (visB_ok h2) h3 h4) pa_nil (star_cons (env := X.env) (show plainX (.Name y p2) = true from rfl))) (star_cons h6))) fun σ H Q h => ?_, rfl⟩
      obtain ⟨e, F, g, h⟩ := h
      have h : GoodE X.K T cls W (pure a) ((keepR (evalE Φ C a .v e)).bind fun d e1 => match e1[i]? with
        | some (.valx x) => Out.ok (.tuple [d, x], .x1) e1
        | _ => .stuck) e σ F H Q := h
      refine good_imp (q1 := pure a) (good_keep (q1 := pure a) (X := fun d e1 => keepR (evalE Φ C a .v e) = .ok d e1) (Step.refl g) ?_) id ?_ |> fun z => ⟨e, F, g, z⟩
      · cases r : keepR (evalE Φ C a .v e) with
        | ok d e1 => exact rfl
        | stuck => rw [r] at h; exact h.elim
        | exc k d e1 => rw [r] at h; exact h
      · rintro v H1 ⟨d, e1, F1, hr, s1, d1, q1, hr2⟩
        rw [hr2] at h
        have h : GoodE X.K T cls W (pure a) (match e1[i]? with
          | some (.valx x) => Out.ok (.tuple [d, x], .x1) e1
          | _ => .stuck) e σ F H Q := h
        cases q : e1[i]? with
        | none => rw [q] at h; exact h.elim
        | some sl =>
          rw [q] at h
          cases sl <;> first | exact h.elim | skip
          rename_i dx
          obtain ⟨o, k1, u, rfl, k2, k3⟩ := s1.agr.slots i _ q
          refine ⟨u, k1, (Nat.le_of_lt (small1000 (Nat.le_of_ble_eq_true rfl)) : [v, u].length ≤ sizeLine), fun l hl => ?_⟩
          have fu := same_upd (o := .tup [v, u]) (s1.agr.sub.free hl)
          have s2 := s1.newKnown (o := .tup [v, u]) hl (by intro _ y; cases y)
          exact h _ _ _ s2 ⟨.tup (.of upd_same) (.cons (Dp.mono fu d1) (.cons (Dp.mono fu k2) .nil)), l, v, u, d, dx, rfl, rfl, .of upd_same, Dp.mono fu k2, k3.mono fu⟩ fun z => (q1 z).trans (quiet_upd hl)
  exact ⟨fun c x hx => (E c x hx).1, fun c x hx _ => pt_gen (E c x hx).1 (E c x hx).2 fun _ => rfl⟩
theorem snd_all' (ie : IE) : ∀ w : Nm, Snd w ie ∧ SndS w ie ∧ SndI w ie := by
  induction ie with
  | nil => intro w; exact ⟨snd_no fun N sc x => by cases x <;> rfl, snds_nil, sndI_no fun N sc x => by cases x <;> rfl⟩
  | cons a r iha ihr =>
    intro w
    refine ⟨snd_no fun N sc x => by cases x <;> rfl, ?_, sndI_no fun N sc x => by cases x <;> rfl⟩
    cases a <;> first | exact snds_io _ (ihr w).2.1 | exact snds_cons (iha w).1 (ihr w).2.1 (fun i z => by cases z)
  | var i => intro w; exact ⟨snd_var i, no_S rfl, sndI_gen (snd_var i) fun _ _ _ => rfl⟩
  | glob i => intro w; exact ⟨snd_glob i, no_S rfl, sndI_gen (snd_glob i) fun _ _ _ => rfl⟩
  | lit d => intro w; exact ⟨snd_lit d, no_S rfl, sndI_gen (snd_lit d) fun _ _ _ => rfl⟩
  | ioarg i => intro w; exact ⟨snd_no fun N sc x => by cases x <;> rfl, no_S rfl, sndI_no fun N sc x => by cases x <;> rfl⟩
  | bin o a b iha ihb => intro w; exact ⟨snd_bin o (iha w).1 (ihb w).1, no_S rfl, sndI_gen (snd_bin o (iha w).1 (ihb w).1) fun _ _ _ => rfl⟩
  | neg a iha => intro w; exact ⟨snd_neg (iha w).1, no_S rfl, sndI_gen (snd_neg (iha w).1) fun _ _ _ => rfl⟩
  | andE a b iha ihb => intro w; exact ⟨snd_and (iha w).1 (ihb w).1, no_S rfl, sndI_dead fun _ _ _ => rfl⟩
  | orE a b iha ihb => intro w; exact ⟨snd_or (iha w).1 (ihb w).1, no_S rfl, sndI_dead fun _ _ _ => rfl⟩
  | notE a iha => intro w; exact ⟨snd_not (iha w).1, no_S rfl, sndI_dead fun _ _ _ => rfl⟩
  | ite t a b iht iha ihb => intro w; exact ⟨snd_ite (iht w).1 (iha w).1 (ihb w).1, no_S rfl, sndI_gen (snd_ite (iht w).1 (iha w).1 (ihb w).1) fun _ _ _ => rfl⟩
  | cmp o a b iha ihb => intro w; exact ⟨snd_cmp o (iha w).1 (ihb w).1, no_S rfl, sndI_gen (snd_cmp o (iha w).1 (ihb w).1) fun _ _ _ => rfl⟩
  | chain o o' a b c iha ihb ihc => intro w; exact ⟨snd_chain o o' (iha w).1 (ihb w).1 (ihc w).1, no_S rfl, sndI_gen (snd_chain o o' (iha w).1 (ihb w).1 (ihc w).1) fun _ _ _ => rfl⟩
  | tup es ih => intro w; exact ⟨snd_tup (ih w).2.1, no_S rfl, sndI_gen (snd_tup (ih w).2.1) fun _ _ _ => rfl⟩
  | lst es ih => intro w; exact ⟨snd_lst (ih w).2.1, no_S rfl, sndI_gen (snd_lst (ih w).2.1) fun _ _ _ => rfl⟩
  | tmul es k ih ihk => intro w; exact ⟨snd_tmul (ih w).2.1 (ihk w).1, no_S rfl, sndI_gen (snd_tmul (ih w).2.1 (ihk w).1) fun _ _ _ => rfl⟩
  | ix a b iha ihb => intro w; exact ⟨snd_ix (iha w).1 (ihb w).1, no_S rfl, sndI_gen (snd_ix (iha w).1 (ihb w).1) fun _ _ _ => rfl⟩
  | slice a lo hi iha ihl ihh => intro w; exact ⟨snd_slice (iha w).1 (fun _ => (ihl w).1) (fun _ => (ihh w).1), no_S rfl, sndI_gen (snd_slice (iha w).1 (fun _ => (ihl w).1) (fun _ => (ihh w).1)) fun _ _ _ => rfl⟩
  | rev a iha => intro w; exact ⟨snd_rev (iha w).1, no_S rfl, sndI_gen (snd_rev (iha w).1) fun _ _ _ => rfl⟩
  | call f es ih => intro w; exact ⟨snd_call f (ih w).2.1, no_S rfl, sndI_gen (snd_call f (ih w).2.1) fun _ _ _ => rfl⟩
  | bi b es ih => intro w; exact ⟨snd_bi b (ih w).2.1, no_S rfl, sndI_gen (snd_bi b (ih w).2.1) fun _ _ _ => rfl⟩
  | mt k o es iho ih => intro w; exact ⟨snd_mt k (iho w).1 (ih w).2.1, no_S rfl, sndI_gen (snd_mt k (iho w).1 (ih w).2.1) fun _ _ _ => rfl⟩
  | pop i => intro w; exact ⟨snd_pop i, no_S rfl, sndI_gen (snd_pop i) fun _ _ _ => rfl⟩
  | popAt i k ihk => intro w; exact ⟨snd_popAt i (ihk w).1, no_S rfl, sndI_gen (snd_popAt i (ihk w).1) fun _ _ _ => rfl⟩
  | isi a ty iha => intro w; exact ⟨snd_isi ty (iha w).1, no_S rfl, sndI_gen (snd_isi ty (iha w).1) fun _ _ _ => rfl⟩
  | comp tg it ifs elt own _ ihi ihf ihe => intro w; exact ⟨snd_comp (ihi w).2.2 (fun _ => (ihf w.off).1) (ihe w.off).1, no_S rfl, sndI_gen (snd_comp (ihi w).2.2 (fun _ => (ihf w.off).1) (ihe w.off).1) fun _ _ _ => rfl⟩
  | range1 a iha => intro w; exact ⟨snd_dead fun _ _ _ => ⟨rfl, rfl⟩, no_S rfl, sndI_range1 (iha w).1⟩
  | range2 a b iha ihb => intro w; exact ⟨snd_dead fun _ _ _ => ⟨rfl, rfl⟩, no_S rfl, sndI_range2 (iha w).1 (ihb w).1⟩
  | enumr a iha => intro w; exact ⟨snd_dead fun _ _ _ => ⟨rfl, rfl⟩, no_S rfl, sndI_enum (iha w).1⟩
  | zipp a b iha ihb => intro w; exact ⟨snd_dead fun _ _ _ => ⟨rfl, rfl⟩, no_S rfl, sndI_zip (iha w).1 (ihb w).1⟩
  | told ns a iha => intro w; exact ⟨snd_told ns (iha w.off).1, no_S rfl, sndI_gen (snd_told ns (iha w.off).1) fun _ _ _ => rfl⟩
  | tup1 a i iha => intro w; exact ⟨snd_tup1 i (iha w).1, no_S rfl, sndI_gen (snd_tup1 i (iha w).1) fun _ _ _ => rfl⟩
  | ix1 i => intro w; exact ⟨snd_ix1 i, no_S rfl, sndI_gen (snd_ix1 i) fun _ _ _ => rfl⟩
  | tupx a iha => intro w; exact ⟨snd_tupx (iha w).1, no_S rfl, sndI_gen (snd_tupx (iha w).1) fun _ _ _ => rfl⟩
theorem snd_all (ie : IE) : Snd w ie ∧ SndS w ie ∧ SndI w ie := snd_all' ie w
end
end TI

set_option Elab.async false
set_option autoImplicit false
set_option maxRecDepth 100000
set_option maxHeartbeats 8000000
set_option linter.all false
/-! TI22: statements: what a run of trees promises. -/
namespace TI
open PySem PySem.Spec PyProof.Rows L2
section
variable (K : PySem.W.Frag) (T : List (Addr × Str)) (cls : Nat → Addr) (W : WX)
def GoodS (r : SOut) (e : En) (σ : L2.St) (F H : Hp) (D : Ends) : Prop := match r with
  | .next e' => ∀ F' H' σ', Step K T e σ F H e' σ' F' H' → D.nx σ' H'
  | .brk e' => ∀ F' H' σ', Step K T e σ F H e' σ' F' H' → D.bk σ' H'
  | .cont e' => ∀ F' H' σ', Step K T e σ F H e' σ' F' H' → D.ct σ' H'
  | .ret x e' => ∀ F' H' σ' v, Step K T e σ F H e' σ' F' H' → Res K e σ H e' σ' F' H' x v → D.rt v H'
  | .exc c d e' => ∀ F' H' σ' dx v, Step K T e σ F H e' σ' F' H' → H' dx = some (.xd [(("what" : Str), v)]) → Dp K F' v d → W (.ref (cls c)) (some dx) σ' H'
  | .stuck => False
variable (Φ : Fun) (C : List D) (L : Nat)
def tS (is : IS) : TS := fun Ds σ H => ∃ e F, Agr K T e σ F H ∧ GoodS K T cls W (execS Φ C L is e) e σ F H Ds
end
section
variable {K : PySem.W.Frag} {T : List (Addr × Str)} {cls : Nat → Addr} {W : WX} {q1 : Bool} {e e1 e2 : En} {σ σ1 : L2.St} {F F1 H H1 : Hp} {Ds Ds' : Ends}
/-- what follows on r in a statement: Z; or its exception goes on -/
def OutS (K : PySem.W.Frag) (T : List (Addr × Str)) (cls : Nat → Addr) (W : WX) (e : En) (σ : L2.St) (F H : Hp) {α : Type} (r : Out α) (Z : α → En → Prop) : Prop := match r with
  | .ok a e2 => Z a e2
  | .exc c d e2 => ∀ F' H' σ' dx v, Step K T e σ F H e2 σ' F' H' → H' dx = some (.xd [(("what" : Str), v)]) → Dp K F' v d → W (.ref (cls c)) (some dx) σ' H'
  | .stuck => False
theorem outS_s {r : Out (D × Fl)} {f : D × Fl → En → SOut} (h : GoodS K T cls W (r.s f) e σ F H Ds) : OutS K T cls W e σ F H r fun x e2 => GoodS K T cls W (f x e2) e σ F H Ds := by
  cases r <;> exact h
theorem outS_b {α : Type} {r : Out α} {f : α → En → SOut} (h : GoodS K T cls W (r.bindS f) e σ F H Ds) : OutS K T cls W e σ F H r fun x e2 => GoodS K T cls W (f x e2) e σ F H Ds := by
  cases r <;> exact h
/-- seen from a later state -/
theorem outS_H {α : Type} {r : Out α} {Z : α → En → Prop} (s : Step K T e σ F H e1 σ1 F1 H1) (h : OutS K T cls W e σ F H r Z) : OutH K T cls W e1 σ1 F1 H1 r Z := by
  cases r with
  | ok a e2 => exact h
  | exc c d e2 => exact fun F' H' dx v s2 => h F' H' σ1 dx v (s.trans s2)
  | stuck => exact h
theorem good_outS {r : Out (D × Fl)} {Z : D × Fl → En → Prop} (s : Step K T e σ F H e1 σ1 F1 H1) (h : OutS K T cls W e σ F H r Z) :
    GoodE K T cls W q1 r e1 σ1 F1 H1 (fun v H2 => ∃ x e2 F2, r = .ok x e2 ∧ Step K T e1 σ1 F1 H1 e2 σ1 F2 H2 ∧ Res K e1 σ1 H1 e2 σ1 F2 H2 x v ∧ (q1 = true → Quiet H1 H2) ∧ Z x e2) :=
  good_out (Step.refl s.agr) (outS_H s h)
theorem good_outSB {r : Out Bool} {Z : Bool → En → Prop} (s : Step K T e σ F H e1 σ1 F1 H1) (h : OutS K T cls W e σ F H r Z) :
    GoodB K T cls W q1 r e1 σ1 F1 H1 (fun b H2 => ∃ e2 F2, r = .ok b e2 ∧ Step K T e1 σ1 F1 H1 e2 σ1 F2 H2 ∧ (q1 = true → Quiet H1 H2) ∧ Z b e2) :=
  good_outB (Step.refl s.agr) (outS_H s h)
theorem good_keepS {r : Out (D × Fl)} {Z : D → En → Prop} (s : Step K T e σ F H e1 σ1 F1 H1) (h : OutS K T cls W e σ F H (keepR r) Z) :
    GoodE K T cls W q1 r e1 σ1 F1 H1 (fun v H2 => ∃ d e2 F2, keepR r = .ok d e2 ∧ Step K T e1 σ1 F1 H1 e2 σ1 F2 H2 ∧ Dp K F2 v d ∧ (q1 = true → Quiet H1 H2) ∧ Z d e2) :=
  good_keep (Step.refl s.agr) (outS_H s h)
/-- a result seen from an earlier state, the slots' values changed meanwhile -/
theorem res_early {x : D × Fl} {v : V} {σ2 : L2.St} {F2 H2 : Hp} (s : Step K T e σ F H e1 σ1 F1 H1) (h : Res K e1 σ1 H1 e2 σ2 F2 H2 x v) : Res K e σ H e2 σ2 F2 H2 x v := by
  obtain ⟨d, f⟩ := x
  cases f with
  | val => exact h
  | xt => exact h
  | x1 => exact h
  | fr =>
    obtain ⟨xs, a, vs, h1, h2, h3, h4, h5, h6, h7⟩ := h
    refine ⟨xs, a, vs, h1, h2, h3, h4, h5, h6, ?_⟩
    rcases h7 with z | z
    · cases q : H a with
      | none => exact .inl rfl
      | some o => exact absurd z (s.there a (by rw [q]; simp))
    · exact (s.own a z).elim .inr .inl
  | br i => exact h
/-- a run's promise from a later state on -/
theorem goodS_cur {r : SOut} (s : Step K T e σ F H e1 σ1 F1 H1) (h : GoodS K T cls W r e σ F H Ds) : GoodS K T cls W r e1 σ1 F1 H1 Ds := by
  cases r with
  | next e' => exact fun F' H' σ' s2 => h F' H' σ' (s.trans s2)
  | brk e' => exact fun F' H' σ' s2 => h F' H' σ' (s.trans s2)
  | cont e' => exact fun F' H' σ' s2 => h F' H' σ' (s.trans s2)
  | ret x e' => exact fun F' H' σ' v s2 r2 => h F' H' σ' v (s.trans s2) (res_early s r2)
  | exc c d e' => exact fun F' H' σ' dx v s2 => h F' H' σ' dx v (s.trans s2)
  | stuck => exact h
/-- a slot takes a result -/
theorem step_put {x : D × Fl} {v : V} {i : Nat} (s : Step K T e σ F H e1 σ1 F1 H1) (r : Res K e σ H e1 σ1 F1 H1 x v) (nb : x.2.isBr = false) (hp : putS e1 i (slotOf x) = some e2) : Step K T e σ F H e2 (σ1.set i (some v)) F1 H1 := by
  unfold putS at hp
  split at hp
  · rename_i li
    have e0 : e2 = e1.set i (slotOf x) ∧ ∀ xs, e1[i]? ≠ some (.io xs) := by
      split at hp
      · cases hp
      · rename_i nio
        exact ⟨(Option.some.inj hp).symm, fun xs z => nio xs z⟩
    obtain ⟨rfl, nio⟩ := e0
    have ls : i < σ1.length := by rw [← s.agr.len]; exact li
    have ns : ∀ {j : Nat}, j ≠ i → (σ1.set i (some v))[j]? = σ1[j]? := fun {j} n => List.getElem?_set_ne (fun z => n z.symm)
    -- the new slot
    have new : SlotOk K F1 H1 (slotOf x) (some v) ∧ ∀ xs, held (slotOf x) = some xs → ∃ a, v = .ref a ∧ (H a = none ∨ Own e σ a) ∧ ¬ Own e1 σ1 a := by
      obtain ⟨d, f⟩ := x
      cases f with
      | br j => cases nb
      | val => cases d <;> exact ⟨⟨v, rfl, r⟩, fun xs z => by cases z⟩
      | xt => cases d <;> exact ⟨⟨v, rfl, r⟩, fun xs z => by cases z⟩
      | x1 => cases d <;> exact ⟨⟨v, rfl, r⟩, fun xs z => by cases z⟩
      | fr =>
        obtain ⟨xs, a, vs, rfl, rfl, h3, h4, h5, h6, h7⟩ := r
        exact ⟨⟨a, vs, rfl, h3, h4, h5⟩, fun ys _ => ⟨a, rfl, h7, h6⟩⟩
    refine ⟨s.ff, s.keep, s.out, fun a ⟨j, t, xs, h1, h2, h3⟩ => ?_, ⟨by rw [List.length_set, List.length_set]; exact s.agr.len, fun j t q => ?_, fun j k t u xs ys q1 q2 q3 q4 ne z => ?_, s.agr.sub, s.agr.noT, s.agr.tab⟩, fun j xs q => ?_, s.there⟩
    · rcases get_set h1 with ⟨rfl, rfl⟩ | ⟨n, h1⟩
      · obtain ⟨b, rfl, w1, w2⟩ := new.2 xs h2
        rw [List.getElem?_set_self ls] at h3
        cases h3
        exact w1.symm
      · rw [ns n] at h3
        exact s.own a ⟨j, t, xs, h1, h2, h3⟩
    · rcases get_set q with ⟨rfl, rfl⟩ | ⟨n, q⟩
      · exact ⟨_, List.getElem?_set_self ls, new.1⟩
      · rw [ns n]
        exact s.agr.slots j t q
    · rcases get_set q1 with ⟨rfl, rfl⟩ | ⟨n1, y1⟩
      · rcases get_set q2 with ⟨rfl, rfl⟩ | ⟨n2, y2⟩
        · exact ne rfl
        · obtain ⟨b, rfl, w1, w2⟩ := new.2 xs q3
          rw [List.getElem?_set_self ls, ns n2] at z
          exact w2 ⟨k, u, ys, y2, q4, z.symm⟩
      · rcases get_set q2 with ⟨rfl, rfl⟩ | ⟨n2, y2⟩
        · obtain ⟨b, rfl, w1, w2⟩ := new.2 ys q4
          rw [List.getElem?_set_self ls, ns n1] at z
          exact w2 ⟨j, t, xs, y1, q3, z⟩
        · rw [ns n1, ns n2] at z
          exact s.agr.dis j k t u xs ys y1 y2 q3 q4 ne z
    · obtain ⟨⟨ys, h1⟩, h2⟩ := s.io j xs q
      have n : j ≠ i := fun z => nio ys (z ▸ h1)
      exact ⟨⟨ys, by rw [List.getElem?_set_ne (fun z => n z.symm)]; exact h1⟩, by rw [ns n]; exact h2⟩
  · cases hp
end
/-! ### the text of statements -/
section
variable (w : Nm) (N : List Str)
def nameAt (sc : Scope) (i : Nat) (x : Str) : Bool := decide (N[i]? = some x) && visB sc x && !(x == ("__debug__" : Str)) && !(x == ("__classdict__" : Str))
def optX (sc : Scope) (a : IE) (l : Option Expr) : Bool := match l with
  | none => isNil a
  | some y => !isNil a && chkE w N sc a y
/-- two locals at once -/
def parL (sc : Scope) (i j : Nat) (a b : IE) (y z : Str) (py pz : Pos) (p q : Expr) : Bool := decide (N[i]? = some y) && decide (N[j]? = some z) && decide (i ≠ j) && decide (sc.names.lookup y = some .local) && decide (sc.names.lookup z = some .local) && plainX p && plainX q && chkE w N sc a p && chkE w N sc b q && (pz.line == py.line) && !(z == y) && !([p, q].all (foldedForSure 8)) && !([p, q].all (constantsAlone 8)) && (match sc.kind with | .function => true | _ => false)
/-- .. not both of them plain locals -/
def parC (sc : Scope) (i j : Nat) (a b : IE) (y z : Str) (p q : Expr) : Bool := decide (N[i]? = some y) && decide (N[j]? = some z) && locB sc y && locB sc z && !(decide (sc.names.lookup y = some .local) && decide (sc.names.lookup z = some .local)) && plainX p && plainX q && chkE w N sc a p && chkE w N sc b q
/-- three locals -/
def par3L (sc : Scope) (i j k : Nat) (a b c : IE) (y z u : Str) (py pz pu : Pos) (p q r : Expr) : Bool := decide (N[i]? = some y) && decide (N[j]? = some z) && decide (N[k]? = some u) && (decide (i ≠ j) && decide (i ≠ k) && decide (j ≠ k)) && (decide (sc.names.lookup y = some .local) && decide (sc.names.lookup z = some .local) && decide (sc.names.lookup u = some .local)) &&
  (plainX p && plainX q && plainX r) && (chkE w N sc a p && chkE w N sc b q && chkE w N sc c r) && ((pz.line == py.line) && (pu.line == py.line)) && (!(z == y) && !(u == y) && !(u == z)) && !([p, q, r].all (foldedForSure 8)) && !([p, q, r].all (constantsAlone 8)) && (match sc.kind with | .function => true | _ => false)
mutual
def chk1 (sc : Scope) : IS → Stmt → Bool
  | .expr a, .Expr x _ => noComp x && chkE w N sc a x
  | .set i a, .Assign ts x pos => (match ts with
    | [.Name y py] => decide (N[i]? = some y) && locB sc y && chkE w N sc a x && (noComp x || (match x with
      | .ListComp _ _ cs p => decide (sc.names.lookup y = some .cell) || ((match sc.kind with | .function => true | _ => false) && decide (sc.names.lookup y = some .local) && (py.line == p.line) && !(cs.names.any fun (n, k) => n == y && (k == .local || k == .cell)))
      | _ => false))
    | _ => false)
  | .par i j a b, .Assign ts x _ => (match ts, x with
    | [.Tuple [.Name y py, .Name z pz] _ _], .Tuple [p, q] _ _ => parL w N sc i j a b y z py pz p q || parC w N sc i j a b y z p q
    | _, _ => false)
  | .par3 i j k a b c, .Assign ts x _ => (match ts, x with
    | [.Tuple [.Name y py, .Name z pz, .Name u pu] _ _], .Tuple [p, q, r] _ _ => par3L w N sc i j k a b c y z u py pz pu p q r
    | _, _ => false)
  | .unpack tg a, .Assign ts x _ => (match ts with
    | [.Tuple ys k p] => noComp x && chkT N sc tg (.Tuple ys k p) && chkE w N sc a x && (match x with | .Tuple _ _ _ => false | _ => true)
    | _ => false)
  | .setix i k v, .Assign ts x _ => (match ts with
    | [.Subscript (.Name y _) z _] => noComp x && nameAt N sc i y && noSlice z && chkE w N sc k z && chkE w N sc v x
    | _ => false)
  | .setsl i lo hi v, .Assign ts x _ => (match ts with
    | [.Subscript (.Name y _) (.Slice l h none _) _] => noComp x && nameAt N sc i y && optX w N sc lo l && optX w N sc hi h && chkE w N sc v x
    | _ => false)
  | .app i a, .Expr x _ => (match x with
    | .Call (.Attribute (.Name y _) n apos) [z] [] pos => decide (n = ("append" : Str)) && nameAt N sc i y && (apos.endLine == pos.line) && plainX z && chkE w N sc a z
    | _ => false)
  | .ext i a, .Expr x _ => (match x with
    | .Call (.Attribute (.Name y _) n apos) [z] [] pos => decide (n = ("extend" : Str)) && nameAt N sc i y && (apos.endLine == pos.line) && plainX z && chkE w N sc a z
    | _ => false)
  | .ret a, .Return x _ => (match x with
    | some y => chkE w N sc a y
    | none => false)
  | .retN, .Return x _ => x.isNone
  | .ite t a b, .If c xs ys _ => chkE w N sc t c && chkB t && chkX sc a xs && chkX sc b ys
  | .forr tg it body, .For t i xs ys _ => chkE w N sc it i && noSet i && okTg it tg && chkT N sc tg t && chkX sc body xs && ys.isEmpty
  | .whil t body, .While c xs ys _ => chkE w N sc t c && chkB t && chkX sc body xs && ys.isEmpty
  | .raise k a, .Raise x y _ => (match x, y with
    | some (.Call (.Name z _) [p] [] _), none => decide (w.xn[k]? = some z) && glB sc z && plainX p && chkE w N sc a p
    | _, _ => false)
  | .pass, .Pass _ => true
  | .brk, .Break _ => true
  | .cont, .Continue _ => true
  | _, _ => false
termination_by structural x => x
def chkX (sc : Scope) : IS → List Stmt → Bool
  | .nil, [] => true
  | .cons a r, s :: ss => chk1 sc a s && chkX sc r ss
  | _, _ => false
termination_by structural x => x
end
end
end TI

set_option Elab.async false
set_option autoImplicit false
set_option maxRecDepth 100000
set_option maxHeartbeats 8000000
set_option linter.all false
/-! TI23: small statements. -/
namespace TI
open PySem PySem.Spec PyProof.Rows L2
/-- an exception with its one argument kept as `what` -/
def tMkX (C : Addr) (te : TE) : L2.St → Hp → XK → Prop := fun σ H Q => te σ H fun v H1 => ∀ d, H1 d = none → Q (.ref C) (some d) (upd H1 d (.xd [(("what" : Str), v)]))
/-- the frame of a def's body -/
structure SCtx (w : Nm) (T : List (Addr × Str)) (cls : Nat → Addr) (W : WX) (Φ : Fun) (C : List D) (n : Nat) (X : Cx) : Prop where
  c : Ctx w T cls W Φ C n X
  loc : ∀ x, locB X.env.scope x = true → Loc X.env.scope x ∧ (X.fn x = true ∨ X.env.scope.names.lookup x = some .local)
  hp : PassesOwn (model X.prog X.w) X.A X.env X.xe
  mkx : ∀ (k : Nat) (z : Str), w.xn[k]? = some z → ∀ (p : Expr) (te : TE) (pos p2 : Pos), PE X p te → plainX p = true → Gl X z → (z == ("__debug__" : Str)) = false → L2N.PMk X (.Call (.Name z p2) [p] [] pos) (tMkX (cls k) te)
structure SndP (w : Nm) (is : IS) : Prop where
  one : ∀ {T : List (Addr × Str)} {cls : Nat → Addr} {W : WX} {Φ : Fun} {C : List D} {n L : Nat} {X : Cx} (c : SCtx w T cls W Φ C n X) (s : Stmt), chk1 w X.N X.env.scope is s = true → PS X s (tS X.K T cls W Φ C L is)
  all : ∀ {T : List (Addr × Str)} {cls : Nat → Addr} {W : WX} {Φ : Fun} {C : List D} {n L : Nat} {X : Cx} (c : SCtx w T cls W Φ C n X) (xs : List Stmt), chkX w X.N X.env.scope is xs = true → PSs X xs (tS X.K T cls W Φ C L is)
section
variable {w : Nm}
theorem ps_weak {X : Cx} {s : Stmt} {t t' : TS} (h : PS X s t) (i : ∀ Ds σ H, t' Ds σ H → t Ds σ H) : PS X s t' := ⟨fun pins s σ H Ds I q => h.run pins s σ H Ds I (i Ds σ H q)⟩
theorem pss_weak {X : Cx} {xs : List Stmt} {t t' : TS} (h : PSs X xs t) (i : ∀ Ds σ H, t' Ds σ H → t Ds σ H) : PSs X xs t' := ⟨fun pins s σ H Ds I q => h.run pins s σ H Ds I (i Ds σ H q)⟩
theorem no_X {is : IS} (h : (match is with | .nil => false | .cons _ _ => false | _ => true) = true) {N : List Str} {sc : Scope} {xs : List Stmt} : chkX w N sc is xs = false := by
  cases is <;> first | (cases h; done) | (cases xs <;> rfl)
theorem sndp_of {is : IS} (h : (match is with | .nil => false | .cons _ _ => false | _ => true) = true)
    (o : ∀ {T : List (Addr × Str)} {cls : Nat → Addr} {W : WX} {Φ : Fun} {C : List D} {n L : Nat} {X : Cx} (c : SCtx w T cls W Φ C n X) (s : Stmt), chk1 w X.N X.env.scope is s = true → PS X s (tS X.K T cls W Φ C L is)) : SndP w is :=
  ⟨o, fun c xs hx => by rw [no_X h] at hx; exact (Bool.false_ne_true hx).elim⟩
theorem sndp_nil : SndP w .nil := by
  refine ⟨fun c s hx => by cases s <;> exact (Bool.false_ne_true hx).elim, fun c xs hx => ?_⟩
  cases xs with
  | cons x r => exact (Bool.false_ne_true hx).elim
  | nil =>
    refine pss_weak pss_nil fun Ds σ H h => ?_
    obtain ⟨e, F, g, h⟩ := h
    exact h F H σ (Step.refl g)
theorem sndp_cons {a r : IS} (ha : SndP w a) (hr : SndP w r) : SndP w (.cons a r) := by
  refine ⟨fun c s hx => by cases s <;> exact (Bool.false_ne_true hx).elim, fun {T cls W Φ C n L X} c xs hx => ?_⟩
  cases xs with
  | nil => exact (Bool.false_ne_true hx).elim
  | cons x t =>
    obtain ⟨h1, h2⟩ := Bool.and_eq_true_iff.mp (show (chk1 w X.N X.env.scope a x && chkX w X.N X.env.scope r t) = true from hx)
    refine pss_weak (pss_cons (ha.one (L := L) c x h1) (hr.all (L := L) c t h2)) fun Ds σ H h => ?_
    obtain ⟨e, F, g, h⟩ := h
    have h : GoodS X.K T cls W (match execS Φ C L a e with | .next e1 => execS Φ C L r e1 | o => o) e σ F H Ds := h
    refine ⟨e, F, g, ?_⟩
    cases k : execS Φ C L a e with
    | next e1 =>
      rw [k] at h
      exact fun F1 H1 σ1 s1 => ⟨e1, F1, s1.agr, goodS_cur s1 h⟩
    | ret x e1 => rw [k] at h; exact h
    | brk e1 => rw [k] at h; exact h
    | cont e1 => rw [k] at h; exact h
    | exc cc d e1 => rw [k] at h; exact h
    | stuck => rw [k] at h; exact h
theorem sndp_pass : SndP w .pass := sndp_of rfl fun c s hx => by
  cases s <;> first | exact (Bool.false_ne_true hx).elim | exact ps_weak ps_pass fun Ds σ H ⟨e, F, g, h⟩ => h F H σ (Step.refl g)
theorem sndp_brk : SndP w .brk := sndp_of rfl fun c s hx => by
  cases s <;> first | exact (Bool.false_ne_true hx).elim | exact ps_weak ps_break fun Ds σ H ⟨e, F, g, h⟩ => h F H σ (Step.refl g)
theorem sndp_cont : SndP w .cont := sndp_of rfl fun c s hx => by
  cases s <;> first | exact (Bool.false_ne_true hx).elim | exact ps_weak ps_continue fun Ds σ H ⟨e, F, g, h⟩ => h F H σ (Step.refl g)
theorem sndp_retN : SndP w .retN := sndp_of rfl fun c s hx => by
  cases s <;> first | exact (Bool.false_ne_true hx).elim | skip
  rename_i x p
  cases x with
  | some y => exact (Bool.false_ne_true hx).elim
  | none => exact ps_weak ps_retN fun Ds σ H ⟨e, F, g, h⟩ => h F H σ _ (Step.refl g) .non
theorem sndp_expr (a : IE) : SndP w (.expr a) := sndp_of rfl fun {T cls W Φ C n L X} c s hx => by
  cases s <;> first | exact (Bool.false_ne_true hx).elim | skip
  rename_i x p
  obtain ⟨h1, h2⟩ := Bool.and_eq_true_iff.mp (show (noComp x && chkE w X.N X.env.scope a x) = true from hx)
  refine ps_weak (ps_expr ((snd_all a).1.e c.c x h2) (swaps_plain h1)) fun Ds σ H h => ?_
  obtain ⟨e, F, g, h⟩ := h
  refine ⟨e, F, g, good_imp (q1 := pure a) (good_outS (q1 := pure a) (Step.refl g) (outS_s h)) id ?_⟩
  rintro v H1 ⟨y, e1, F1, hr, s1, r1, q1, h1⟩
  exact h1 F1 H1 σ s1
theorem sndp_ite (t : IE) {a b : IS} (ha : SndP w a) (hb : SndP w b) : SndP w (.ite t a b) := sndp_of rfl fun {T cls W Φ C n L X} c s hx => by
  cases s <;> first | exact (Bool.false_ne_true hx).elim | skip
  rename_i tx xs ys p
  have hx : (chkE w X.N X.env.scope t tx && chkB t && chkX w X.N X.env.scope a xs && chkX w X.N X.env.scope b ys) = true := hx
  simp only [Bool.and_eq_true] at hx
  obtain ⟨⟨⟨h1, h2⟩, h3⟩, h4⟩ := hx
  refine ps_weak (ps_if (pos := p) ((snd_all t).1.t c.c tx h1 h2) (ha.all (L := L) c xs h3) (hb.all (L := L) c ys h4)) fun Ds σ H h => ?_
  obtain ⟨e, F, g, h⟩ := h
  refine ⟨e, F, g, good_impB (good_outSB (q1 := pure t) (Step.refl g) (outS_b h)) ?_⟩
  rintro z H1 ⟨e1, F1, hr, s1, q1, h1⟩
  cases z with
  | true => rw [if_pos rfl]; exact ⟨e1, F1, s1.agr, goodS_cur s1 h1⟩
  | false => rw [if_neg Bool.false_ne_true]; exact ⟨e1, F1, s1.agr, goodS_cur s1 h1⟩
theorem sndp_ret (a : IE) : SndP w (.ret a) := sndp_of rfl fun {T cls W Φ C n L X} c s hx => by
  cases s <;> first | exact (Bool.false_ne_true hx).elim | skip
  rename_i x p
  cases x with
  | none => exact (Bool.false_ne_true hx).elim
  | some y =>
  have hx : chkE w X.N X.env.scope a y = true := hx
  refine ps_weak (ps_ret (pos := p) ((snd_all a).1.e c.c y hx)) fun Ds σ H h => ?_
  obtain ⟨e, F, g, h⟩ := h
  refine ⟨e, F, g, ?_⟩
  have h : GoodS X.K T cls W ((retR (evalE Φ C a .v e)).s fun x e1 => .ret x e1) e σ F H Ds := h
  cases r : evalE Φ C a .v e with
  | stuck => rw [r] at h; exact h
  | exc cc d e1 => rw [r] at h; exact fun F' H' dx v s2 => h F' H' σ dx v s2
  | ok x e1 =>
    rw [r] at h
    intro F1 H1 v s1 r1 q1
    obtain ⟨d, f⟩ := x
    cases f with
    | val => exact h F1 H1 σ v s1 r1
    | fr => exact h F1 H1 σ v s1 r1
    | xt => exact h F1 H1 σ v s1 r1
    | x1 => exact h F1 H1 σ v s1 r1
    | br i =>
      have h : GoodS X.K T cls W ((match e1[i]? with | some (.own _) => (Out.ok (d, Fl.fr) (e1.set i .emp) : Out (D × Fl)) | _ => .stuck).s fun x e1 => .ret x e1) e σ F H Ds := h
      cases z : e1[i]? with
      | none => rw [z] at h; exact h.elim
      | some sl =>
        rw [z] at h
        cases sl <;> first | exact h.elim | skip
        rename_i ys
        obtain ⟨xs, a0, vs, rfl, rfl, h3, h4, h5⟩ := r1
        obtain ⟨b, us, w1, w2, w3, w4⟩ := s1.agr.holds z rfl
        rw [h5] at w1
        cases w1
        have emp : ∀ (j : Nat) (t : Slot) (zs : List TI.D), (e1.set i .emp)[j]? = some t → held t = some zs → j ≠ i ∧ e1[j]? = some t := fun j t zs y1 y2 => by
          rcases get_set y1 with ⟨_, y⟩ | y
          · subst y; cases y2
          · exact y
        have nio : ∀ (j : Nat) (zs : List TI.D), e1[j]? = some (.io zs) → j ≠ i := fun j zs y z2 => by
          subst z2
          rw [z] at y
          cases y
        have s2 : Step X.K T e σ F H (e1.set i .emp) σ F1 H1 := by
          refine ⟨s1.ff, s1.keep, s1.out, fun b ⟨j, t, zs, y1, y2, y3⟩ => s1.own b ⟨j, t, zs, (emp j t zs y1 y2).2, y2, y3⟩, s1.agr.setEmp i, fun j zs y => ?_, s1.there⟩
          obtain ⟨⟨ws, y1⟩, y2⟩ := s1.io j zs y
          exact ⟨⟨ws, by rw [List.getElem?_set_ne (fun y => nio j ws y1 y.symm)]; exact y1⟩, y2⟩
        refine h F1 H1 σ _ s2 ⟨xs, a0, vs, rfl, rfl, w2, h3, h4, fun ⟨j, t, zs, y1, y2, y3⟩ => ?_, (s1.own a0 ⟨i, _, ys, z, rfl, h5⟩).symm⟩
        obtain ⟨nj, y4⟩ := emp j t zs y1 y2
        exact s1.agr.dis j i t _ zs ys y4 z y2 rfl nj (y3.trans h5.symm)
end
end TI

set_option Elab.async false
set_option autoImplicit false
set_option maxRecDepth 100000
set_option maxHeartbeats 8000000
set_option linter.all false
/-! TI24: stores. -/
namespace TI
open PySem PySem.Spec PyProof.Rows L2
section
variable {K : PySem.W.Frag} {T : List (Addr × Str)} {cls : Nat → Addr} {W : WX} {q1 : Bool} {e e1 : En} {σ σ1 : L2.St} {F F1 H H1 : Hp}
/-- a result that goes to a name -/
theorem good_hold {r : Out (D × Fl)} {Z : D × Fl → En → Prop} (s : Step K T e σ F H e1 σ1 F1 H1) (h : OutS K T cls W e σ F H (holdR r) Z) :
    GoodE K T cls W q1 r e1 σ1 F1 H1 (fun v H2 => ∃ x e2 F2, holdR r = .ok x e2 ∧ Step K T e1 σ1 F1 H1 e2 σ1 F2 H2 ∧ Res K e1 σ1 H1 e2 σ1 F2 H2 x v ∧ x.2.isBr = false ∧ (q1 = true → Quiet H1 H2) ∧ Z x e2) := by
  have old : holdR r = (keepR r).bind (fun d e => Out.ok (d, .val) e) → GoodE K T cls W q1 r e1 σ1 F1 H1 (fun v H2 => ∃ x e2 F2, holdR r = .ok x e2 ∧ Step K T e1 σ1 F1 H1 e2 σ1 F2 H2 ∧ Res K e1 σ1 H1 e2 σ1 F2 H2 x v ∧ x.2.isBr = false ∧ (q1 = true → Quiet H1 H2) ∧ Z x e2) := fun eq => by
    rw [eq] at h
    refine good_imp (q1 := q1) (good_keepS (Z := fun d e2 => Z (d, .val) e2) s ?_) id ?_
    · cases k : keepR r <;> (rw [k] at h; exact h)
    · rintro v H2 ⟨d, e2, F2, hr, s2, r2, q2, h2⟩
      exact ⟨(d, .val), e2, F2, by rw [eq, hr], s2, r2, rfl, q2, h2⟩
  cases r with
  | stuck => exact old rfl
  | exc c d e2 => exact old rfl
  | ok x e2 =>
    obtain ⟨d, f⟩ := x
    cases f with
    | val => exact old rfl
    | br i => exact old rfl
    | xt => exact fun F2 H2 v s2 r2 q2 => ⟨(d, .xt), e2, F2, rfl, s2, r2, rfl, q2, h⟩
    | x1 => exact fun F2 H2 v s2 r2 q2 => ⟨(d, .x1), e2, F2, rfl, s2, r2, rfl, q2, h⟩
    | fr => exact fun F2 H2 v s2 r2 q2 => ⟨(d, .fr), e2, F2, rfl, s2, r2, rfl, q2, h⟩
end
section
variable {w : Nm}
theorem sole_plain {t x : Expr} {l : Nat} {env : Env} (h : noComp x = true) : swapsWithSole [t] x l env = Pure.pure false := by
  show swapsWith x (some t) l env = Pure.pure false
  exact swaps_plain h
theorem set_core {T : List (Addr × Str)} {cls : Nat → Addr} {W : WX} {Φ : Fun} {C : List D} {L : Nat} {X : Cx} {i : Nat} {a : IE} {Ds : Ends} {σ : L2.St} {H : Hp} (h : tS X.K T cls W Φ C L (.set i a) Ds σ H) : tE X.K T cls W Φ C .v a σ H fun v H1 => Ds.nx (σ.set i (some v)) H1 := by
  obtain ⟨e, F, g, h⟩ := h
  refine ⟨e, F, g, good_imp (q1 := pure a) (good_hold (q1 := pure a) (Step.refl g) (outS_s h)) id ?_⟩
  rintro v H1 ⟨x, e1, F1, hr, s1, r1, nb, q1, h1⟩
  cases hp : putS e1 i (slotOf x) with
  | none => rw [hp] at h1; exact h1.elim
  | some e2 =>
    rw [hp] at h1
    exact h1 F1 H1 _ (step_put s1 r1 nb hp)
theorem swaps_cell {elt : Expr} {gs : List Comprehension} {cs : Scope} {p py : Pos} {y : Str} {l : Nat} {env : Env} (h : env.scope.names.lookup y = some .cell) : swapsWith (.ListComp elt gs cs p) (some (.Name y py)) l env = Pure.pure false := by
  have k : env.kindOf y = some .cell := h
  have e : (some NameKind.cell == some NameKind.local) = false := rfl
  unfold swapsWith
  simp only [k, e, Bool.and_false, Bool.false_and]
theorem sndp_set (i : Nat) (a : IE) : SndP w (.set i a) := sndp_of rfl fun {T cls W Φ C n L X} c s hx => by
  cases s <;> first | exact (Bool.false_ne_true hx).elim | skip
  rename_i ts x pos
  match ts, hx with
  | [.Name y py], hx =>
    have hx : (decide (X.N[i]? = some y) && locB X.env.scope y && chkE w X.N X.env.scope a x && (noComp x || (match (generalizing := false) x with
      | .ListComp _ _ cs p => decide (X.env.scope.names.lookup y = some .cell) || ((match X.env.scope.kind with | .function => true | _ => false) && decide (X.env.scope.names.lookup y = some .local) && (py.line == p.line) && !(cs.names.any fun (n, k) => n == y && (k == .local || k == .cell)))
      | _ => false))) = true := hx
    rw [Bool.and_eq_true, Bool.and_eq_true, Bool.and_eq_true] at hx
    obtain ⟨⟨⟨h1, h2⟩, h3⟩, h4⟩ := hx
    have h1 := of_decide_eq_true h1
    obtain ⟨l1, l2⟩ := c.loc y h2
    cases nc : noComp x with
    | true => exact ps_weak (ps_set (pos := pos) (pos' := py) c.c.nd h1 l1 ((snd_all a).1.e c.c x h3) (swaps_plain nc) l2) fun Ds σ H h => set_core h
    | false =>
      rw [nc, Bool.false_or] at h4
      cases x <;> first | (cases nc; done) | (cases h4; done) | skip
      rename_i elt gs cs p _
      have h4 : (decide (X.env.scope.names.lookup y = some .cell) || ((match X.env.scope.kind with | .function => true | _ => false) && decide (X.env.scope.names.lookup y = some .local) && (py.line == p.line) && !(cs.names.any fun (n, k) => n == y && (k == .local || k == .cell)))) = true := h4
      rcases Bool.or_eq_true_iff.mp h4 with h4 | h4
      · exact ps_weak (ps_set (pos := pos) (pos' := py) c.c.nd h1 l1 ((snd_all a).1.e c.c _ h3) (swaps_cell (of_decide_eq_true h4)) l2) fun Ds σ H h => set_core h
      simp only [Bool.and_eq_true, decide_eq_true_eq, Bool.not_eq_true'] at h4
      obtain ⟨⟨⟨k1, k2⟩, k3⟩, k4⟩ := h4
      have kf : X.env.scope.kind = .function := by
        cases kk : X.env.scope.kind <;> first | rfl | (rw [kk] at k1; cases k1)
      cases a with
      | comp tg it ifs el own =>
      obtain ⟨t, i0, fs, wi, g, tt, te, ow, rfl, p1, p2, p3, p4, p5, p6, p7, p8⟩ := comp_parts (snd_all it).2.2 (fun _ => (snd_all ifs).1) (snd_all el).1 c.c h3
      subst p3
      exact ps_weak (ps_setLc (pos := p) (spos := pos) c.c.calm c.c.nd h1 k2 (sw_true kf k2 k3 k4) p1 p2 p4 p5 p6 (fun _ => folded_plain p7)) fun Ds σ H h => p8 σ H _ (set_core h)
      | _ => exact (Bool.false_ne_true h3).elim
theorem sndp_unpack (tg a : IE) : SndP w (.unpack tg a) := sndp_of rfl fun {T cls W Φ C n L X} c s hx => by
  cases s <;> first | exact (Bool.false_ne_true hx).elim | skip
  rename_i ts x pos
  match ts, hx with
  | [.Tuple ys k p], hx =>
    have hx : (noComp x && chkT X.N X.env.scope tg (.Tuple ys k p) && chkE w X.N X.env.scope a x && (match (generalizing := false) x with | .Tuple _ _ _ => false | _ => true)) = true := hx
    rw [Bool.and_eq_true, Bool.and_eq_true, Bool.and_eq_true] at hx
    obtain ⟨⟨⟨h1, h2⟩, h3⟩, h4⟩ := hx
    have sw : swappedStores [.Tuple ys k p] x X.env = Pure.pure none := by
      cases x <;> first | (cases h4; done) | rfl
    refine ps_weak (ps_asg (pos := pos) ((snd_all a).1.e c.c x h3) ((pg_tg (T := T) (sc := X.env.scope) c.c.nd c.c.calm c.loc tg).1 _ h2) (sole_plain h1) sw (by rw [assign_cons h2]; rfl)) fun Ds σ H h => ?_
    obtain ⟨e, F, g, h⟩ := h
    have h : GoodS X.K T cls W ((evalE Φ C a .v e).s fun x e1 => match (generalizing := false) tg with | .tup _ => optS (bindT tg x.1 e1) | _ => .stuck) e σ F H Ds := h
    refine ⟨e, F, g, good_imp (q1 := pure a) (good_outS (q1 := pure a) (Step.refl g) (outS_s h)) id ?_⟩
    rintro v H1 ⟨y, e1, F1, hr, s1, r1, q1, h1⟩
    obtain ⟨es, rfl, hk⟩ : ∃ es, tg = .tup es ∧ GoodS X.K T cls W (optS (bindT tg y.1 e1)) e σ F H Ds := by
      cases tg <;> first | exact h1.elim | exact ⟨_, rfl, h1⟩
    cases hb : bindT (.tup es) y.1 e1 with
    | none => rw [hb] at hk; exact hk.elim
    | some e2 =>
      rw [hb] at hk
      obtain ⟨d, f⟩ := y
      cases d <;> first | (cases hb; done) | skip
      rename_i ds
      have nb : f.isBr = false := by
        cases f <;> first | rfl | skip
        obtain ⟨_, _, _, z, _⟩ := r1
        cases z
      obtain ⟨F2, s2, d2, _⟩ := r1.keep s1 nb
      exact ⟨e1, F2, .tuple ds, e2, s2.agr, d2, hb, fun σ2 g2 bn => hk F2 H1 σ2 (step_bnd s2 g2 bn)⟩
/-- a change of a name's list in a statement -/
theorem mod_at {K : PySem.W.Frag} {T : List (Addr × Str)} {e e1 e2 : En} {σ : L2.St} {F H F1 H1 : Hp} {i : Nat} {f : List D → Option (List D)} (s : Step K T e σ F H e1 σ F1 H1) (h : modL e1 i f = some e2) :
    ∃ a xs ys vs, σ[i]? = some (some (.ref a)) ∧ H1 a = some (.lst vs) ∧ DpAll K F1 vs xs ∧ f xs = some ys ∧ ∀ us, DpAll K F1 us ys → Step K T e σ F H e2 σ F1 (upd H1 a (.lst us)) := by
  obtain ⟨sl, xs, sl', ys, h1, h2, h3, h4, h5, rfl⟩ := modL_at h
  obtain ⟨a, vs, w1, w2, w3, w4⟩ := s.agr.holds h1 h2
  exact ⟨a, xs, ys, vs, w1, w3, w4, h5, fun us hu => s.trans (step_write s.agr h1 h2 w1 hu h3 h4)⟩
theorem nameAt_ok {X : Cx} {i : Nat} {y : Str} (h : nameAt X.N X.env.scope i y = true) : X.N[i]? = some y ∧ Vis X.env.scope y ∧ (y == ("__debug__" : Str)) = false ∧ (y == ("__classdict__" : Str)) = false := by
  unfold nameAt at h
  simp only [Bool.and_eq_true, decide_eq_true_eq, Bool.not_eq_true'] at h
  exact ⟨h.1.1.1, visB_ok h.1.1.2, h.1.2, h.2⟩
theorem sndp_setix (i : Nat) (k v : IE) : SndP w (.setix i k v) := sndp_of rfl fun {T cls W Φ C n L X} c s hx => by
  cases s <;> first | exact (Bool.false_ne_true hx).elim | skip
  rename_i ts x pos
  match ts, hx with
  | [.Subscript (.Name y py) z p], hx =>
    have hx : (noComp x && nameAt X.N X.env.scope i y && noSlice z && chkE w X.N X.env.scope k z && chkE w X.N X.env.scope v x) = true := hx
    simp only [Bool.and_eq_true] at hx
    obtain ⟨⟨⟨⟨h1, h2⟩, h3⟩, h4⟩, h5⟩ := hx
    obtain ⟨n1, n2, n3, n4⟩ := nameAt_ok h2
    have P := pg_sub (pos := p) (pe_var (pos := py) n1 n2 n3 n4) ((snd_all k).1.e c.c z h4) (set_list (X := X)) (by intro u; cases z <;> first | rfl | (cases h3; done))
    refine ps_weak (ps_asg (pos := pos) ((snd_all v).1.e c.c x h5) P (sole_plain h1) (by cases x <;> rfl) rfl) fun Ds σ H h => ?_
    obtain ⟨e, F, g, h⟩ := h
    refine ⟨e, F, g, good_imp (q1 := pure v) (good_keepS (q1 := pure v) (Step.refl g) (outS_b h)) id ?_⟩
    rintro u H1 ⟨d, e1, F1, hr, s1, d1, q1, h1⟩
    cases hh : isHeld e1 i with
    | false => simp only [hh] at h1; exact h1.elim
    | true =>
      simp only [hh] at h1
      obtain ⟨a0, ha⟩ := isHeld_at s1.agr hh
      refine ⟨.ref a0, ha, e1, F1, s1.agr, good_imp (q1 := pure k) (good_outS (q1 := pure k) s1 (outS_s h1)) id ?_⟩
      rintro v2 H2 ⟨y2, e2, F2, hr2, s2, r2, q2, h2⟩
      obtain ⟨d2, f2⟩ := y2
      cases d2 <;> first | exact h2.elim | skip
      rename_i j
      cases r2.top.int
      have h2 : GoodS X.K T cls W (optS (modL e2 i fun xs => (place xs.length j).map fun p => xs.set p d)) e σ F H Ds := h2
      cases hm : modL e2 i fun xs => (place xs.length j).map fun p => xs.set p d with
      | none => rw [hm] at h2; exact h2.elim
      | some e3 =>
        rw [hm] at h2
        obtain ⟨a, xs, ys, vs, w1, w2, w3, w4, w5⟩ := mod_at (s1.trans s2) hm
        rw [ha] at w1
        cases w1
        obtain ⟨p0, w6, rfl⟩ := Option.map_eq_some_iff.mp w4
        exact ⟨a0, vs, j, p0, rfl, rfl, w2, by rw [w3.length]; exact w6, h2 F2 _ σ (w5 _ (w3.set (Dp.mono s2.ff d1) p0))⟩
/-- a method's call that changes a name's list: its text -/
theorem heldL {K : PySem.W.Frag} {T : List (Addr × Str)} {e : En} {σ : L2.St} {F H : Hp} {i : Nat} (g : Agr K T e σ F H) (hh : isHeld e i = true) : ∃ a us, σ[i]? = some (some (.ref a)) ∧ SqL K H a us := by
  unfold isHeld at hh
  split at hh
  · rename_i xs q
    obtain ⟨b, us, w1, w2, w3, w4⟩ := g.holds q rfl
    exact ⟨b, us, w1, .of w3⟩
  · rename_i xs q
    obtain ⟨b, us, w1, w2, w3, w4⟩ := g.holds q rfl
    exact ⟨b, us, w1, .of w3⟩
  · cases hh
theorem sndp_app (i : Nat) (a : IE) : SndP w (.app i a) := sndp_of rfl fun {T cls W Φ C n L X} c s hx => by
  cases s <;> first | exact (Bool.false_ne_true hx).elim | skip
  rename_i x pos0
  match x, hx with
  | .Call (.Attribute (.Name y py) nm apos) [z] [] pos, hx =>
    have hx : (decide (nm = ("append" : Str)) && nameAt X.N X.env.scope i y && (apos.endLine == pos.line) && plainX z && chkE w X.N X.env.scope a z) = true := hx
    simp only [Bool.and_eq_true, decide_eq_true_eq] at hx
    obtain ⟨⟨⟨⟨rfl, h2⟩, h3⟩, h4⟩, h5⟩ := hx
    obtain ⟨n1, n2, n3, n4⟩ := nameAt_ok h2
    have hp : [z].all plainX = true := by rw [List.all_cons, h4]; rfl
    refine ps_weak (ps_expr (pos := pos0) (pe_bm (apos := apos) (cpos := pos) (name := "append") PySem.F.plainAttrs_list PySem.F.slot_list_append PySem.F.type_list_append mt_append (pe_var (pos := py) n1 n2 n3 n4) (pa_cons ((snd_all a).1.e c.c z h5) pa_nil (star_cons h4)) (base_plain rfl) (by rw [back_all hp]; rfl) h3 (star_cons h4) rfl) (swaps_plain rfl)) fun Ds σ H h => ?_
    obtain ⟨e, F, g, h⟩ := h
    have h : GoodS X.K T cls W (match isHeld e i with
      | true => (keepR (evalE Φ C a .v e)).bindS fun d e1 => optS (modL e1 i fun xs => if xs.length < lim then some (xs ++ [d]) else none)
      | false => .stuck) e σ F H Ds := h
    cases hh : isHeld e i with
    | false => rw [hh] at h; exact h.elim
    | true =>
      rw [hh] at h
      obtain ⟨a0, us, ha, hl⟩ := heldL g hh
      refine ⟨.ref a0, ha, .inl ⟨rfl, us, hl⟩, e, F, g, good_imp (q1 := pure a) (good_keepS (q1 := pure a) (Step.refl g) (outS_b h)) id ?_⟩
      rintro v H1 ⟨d, e1, F1, hr, s1, d1, q1, h1⟩
      cases hm : modL e1 i fun xs => if xs.length < lim then some (xs ++ [d]) else none with
      | none => rw [hm] at h1; exact h1.elim
      | some e2 =>
        rw [hm] at h1
        obtain ⟨b, xs, ys, vs, w1, w2, w3, w4, w5⟩ := mod_at s1 hm
        rw [ha] at w1
        cases w1
        split at w4
        · rename_i lz
          cases w4
          exact ⟨a0, vs, v, rfl, rfl, w2, by rw [w3.length, ← lim_eq]; exact lz, h1 F1 _ σ (w5 _ (w3.append (.cons d1 .nil)))⟩
        · cases w4
theorem sndp_ext (i : Nat) (a : IE) : SndP w (.ext i a) := sndp_of rfl fun {T cls W Φ C n L X} c s hx => by
  cases s <;> first | exact (Bool.false_ne_true hx).elim | skip
  rename_i x pos0
  match x, hx with
  | .Call (.Attribute (.Name y py) nm apos) [z] [] pos, hx =>
    have hx : (decide (nm = ("extend" : Str)) && nameAt X.N X.env.scope i y && (apos.endLine == pos.line) && plainX z && chkE w X.N X.env.scope a z) = true := hx
    simp only [Bool.and_eq_true, decide_eq_true_eq] at hx
    obtain ⟨⟨⟨⟨rfl, h2⟩, h3⟩, h4⟩, h5⟩ := hx
    obtain ⟨n1, n2, n3, n4⟩ := nameAt_ok h2
    have hp : [z].all plainX = true := by rw [List.all_cons, h4]; rfl
    refine ps_weak (ps_expr (pos := pos0) (pe_bm (apos := apos) (cpos := pos) (name := "extend") PySem.F.plainAttrs_list PySem.F.slot_list_extend PySem.F.type_list_extend (mt_extA c.c.kl) (pe_var (pos := py) n1 n2 n3 n4) (pa_cons ((snd_all a).1.e c.c z h5) pa_nil (star_cons h4)) (base_plain rfl) (by rw [back_all hp]; rfl) h3 (star_cons h4) rfl) (swaps_plain rfl)) fun Ds σ H h => ?_
    obtain ⟨e, F, g, h⟩ := h
    have h : GoodS X.K T cls W (match isHeld e i with
      | true => (evalE Φ C a .v e).s fun x e1 => (match itemsOf x.1 with
        | some ys => optS (modL e1 i fun xs => if xs.length + ys.length ≤ lim then some (xs ++ ys) else none)
        | none => .stuck)
      | false => .stuck) e σ F H Ds := h
    cases hh : isHeld e i with
    | false => rw [hh] at h; exact h.elim
    | true =>
      rw [hh] at h
      obtain ⟨a0, us, ha, hl⟩ := heldL g hh
      refine ⟨.ref a0, ha, .inl ⟨rfl, us, hl⟩, e, F, g, good_imp (q1 := pure a) (good_outS (q1 := pure a) (Step.refl g) (outS_s h)) id ?_⟩
      rintro v H1 ⟨y1, e1, F1, hr, s1, r1, q1, h1⟩
      cases hy : itemsOf y1.1 with
      | none => rw [hy] at h1; exact h1.elim
      | some ys =>
        rw [hy] at h1
        have h1 : GoodS X.K T cls W (optS (modL e1 i fun xs => if xs.length + ys.length ≤ lim then some (xs ++ ys) else none)) e σ F H Ds := h1
        obtain ⟨F2, Lk, b0, ws, rfl, s2, ff, kp, nb, hd, k⟩ := seq_iter s1 r1 hy
        cases hm : modL e1 i fun xs => if xs.length + ys.length ≤ lim then some (xs ++ ys) else none with
        | none => rw [hm] at h1; exact h1.elim
        | some e2 =>
          rw [hm] at h1
          obtain ⟨b, xs, zs, vs, w1, w2, w3, w4, w5⟩ := mod_at s2 hm
          rw [ha] at w1
          cases w1
          split at w4
          · rename_i lz
            cases w4
            refine ⟨a0, b0, vs, ws, rfl, rfl, w2, ?_, by rw [w3.length, hd.length, ← lim_eq]; exact lz, h1 F2 _ σ (w5 _ (w3.append hd))⟩
            rcases k with ⟨_, k⟩ | ⟨_, k⟩
            · exact .inl (k H1 s2.agr.sub kp)
            · exact .inr (k H1 s2.agr.sub kp)
          · cases w4
end
end TI

set_option Elab.async false
set_option autoImplicit false
set_option maxRecDepth 100000
set_option maxHeartbeats 8000000
set_option linter.all false
/-! TI25: loops. -/
namespace TI
open PySem PySem.Spec PyProof.Rows L2
section
variable {w : Nm}
theorem sndp_while (t : IE) {body : IS} (hb : SndP w body) : SndP w (.whil t body) := sndp_of rfl fun {T cls W Φ C n L X} c s hx => by
  cases s <;> first | exact (Bool.false_ne_true hx).elim | skip
  rename_i tx xs ys p
  have hx : (chkE w X.N X.env.scope t tx && chkB t && chkX w X.N X.env.scope body xs && ys.isEmpty) = true := hx
  simp only [Bool.and_eq_true] at hx
  obtain ⟨⟨⟨h1, h2⟩, h3⟩, h4⟩ := hx
  cases ys <;> first | (cases h4; done) | skip
  refine ps_weak (ps_while (pos := p) c.hp ((snd_all t).1.t c.c tx h1 h2) (hb.all (L := L) c xs h3)) fun Ds σ H h => ?_
  obtain ⟨e, F, g, h⟩ := h
  have h : GoodS X.K T cls W (whileL (fun e1 => asB (evalE Φ C t .t e1)) (fun e1 => execS Φ C L body e1) L e) e σ F H Ds := h
  refine ⟨fun m σ' H' => ∃ ei Fi, Step X.K T e σ F H ei σ' Fi H' ∧ GoodS X.K T cls W (whileL (fun e1 => asB (evalE Φ C t .t e1)) (fun e1 => execS Φ C L body e1) m ei) e σ F H Ds, ⟨L, e, F, Step.refl g, h⟩, ?_⟩
  rintro m σ1 H1 ⟨e1, F1, s1, k⟩
  cases m with
  | zero => exact k.elim
  | succ m =>
    have k : GoodS X.K T cls W ((asB (evalE Φ C t .t e1)).bindS fun c e2 => match c with
      | false => .next e2
      | true => (match execS Φ C L body e2 with
        | .next e3 => whileL (fun e1 => asB (evalE Φ C t .t e1)) (fun e1 => execS Φ C L body e1) m e3
        | .cont e3 => whileL (fun e1 => asB (evalE Φ C t .t e1)) (fun e1 => execS Φ C L body e1) m e3
        | .brk e3 => .next e3
        | .ret x e3 => .ret x e3
        | .exc c d e3 => .exc c d e3
        | .stuck => .stuck)) e σ F H Ds := k
    refine ⟨e1, F1, s1.agr, good_impB (good_outSB (q1 := pure t) s1 (outS_b k)) ?_⟩
    rintro z H2 ⟨e2, F2, hr, s2, q2, k2⟩
    have s12 := s1.trans s2
    cases z with
    | false =>
      rw [if_neg Bool.false_ne_true]
      exact k2 F2 H2 σ1 s12
    | true =>
      rw [if_pos rfl]
      refine ⟨fun σ' H' => ∃ ei Fi, Step X.K T e σ F H ei σ' Fi H' ∧ GoodS X.K T cls W (whileL (fun e1 => asB (evalE Φ C t .t e1)) (fun e1 => execS Φ C L body e1) m ei) e σ F H Ds, fun σ' H' q => ⟨m, Nat.lt_succ_self _, q⟩, e2, F2, s12.agr, ?_⟩
      cases hk : execS Φ C L body e2 with
      | next e3 => simp only [hk] at k2; exact fun F3 H3 σ3 s3 => ⟨e3, F3, s12.trans s3, k2⟩
      | cont e3 => simp only [hk] at k2; exact fun F3 H3 σ3 s3 => ⟨e3, F3, s12.trans s3, k2⟩
      | brk e3 => simp only [hk] at k2; exact fun F3 H3 σ3 s3 => k2 F3 H3 σ3 (s12.trans s3)
      | ret x e3 => simp only [hk] at k2; exact fun F3 H3 σ3 v s3 r3 => k2 F3 H3 σ3 v (s12.trans s3) (res_early s12 r3)
      | exc cc d e3 => simp only [hk] at k2; exact fun F3 H3 σ3 dx v s3 => k2 F3 H3 σ3 dx v (s12.trans s3)
      | stuck => simp only [hk] at k2; exact k2.elim
/-- one turn of a for, in trees -/
def bodyF (Φ : Fun) (C : List D) (L : Nat) (tg : IE) (body : IS) (x : D) (e2 : En) : SOut := match bindT tg x e2 with
  | some e3 => execS Φ C L body e3
  | none => .stuck
theorem forL_cons (f : D → En → SOut) (x : D) (r : List D) (e : En) : forL f (x :: r) e = (match f x e with
    | .next e1 => forL f r e1
    | .cont e1 => forL f r e1
    | .brk e1 => .next e1
    | .ret x e1 => .ret x e1
    | .exc c d e1 => .exc c d e1
    | .stuck => .stuck) := rfl
/-- the turns of a for over known items -/
theorem for_core {T : List (Addr × Str)} {cls : Nat → Addr} {W : WX} {Φ : Fun} {C : List D} {L : Nat} {X : Cx} {tg : IE} {body : IS} {e e1 : En} {σ : L2.St} {F H F1 H1 : Hp} {Ds : Ends} {xs : List D} {J : It}
    (s1 : Step X.K T e σ F H e1 σ F1 H1) (io : IterOk X.K F1 [] xs J) (h : GoodS X.K T cls W (forL (bodyF Φ C L tg body) xs e1) e σ F H Ds) :
    ∃ Wv : Nat → Nat → L2.St → Hp → Prop, (∃ m, Wv 0 m σ H1) ∧ ∀ i m σ H, Wv i m σ H → (J.stop i H ∧ Ds.nx σ H) ∨ (J.go i H ∧ ∃ N : L2.St → Hp → Prop, (∀ σ' H', N σ' H' → ∃ m', m' < m ∧ Wv (i + 1) m' σ' H') ∧
      ∀ x H', J.yld i H x H' → tG X.K T tg x σ H' fun σ2 H2 => tS X.K T cls W Φ C L body { Ds with nx := N, ct := N, bk := Ds.nx } σ2 H2) := by
  obtain ⟨G, Y, wk, gk, yk⟩ := io
  refine for_it wk (g := tG X.K T tg) (tb := tS X.K T cls W Φ C L body) (D := Ds) (σ := σ) (H := H1)
    (fun i σ' H' => ∃ ei Fi, Step X.K T e σ F H ei σ' Fi H' ∧ Same F1 Fi ∧ GoodS X.K T cls W (forL (bodyF Φ C L tg body) (xs.drop i) ei) e σ F H Ds) ⟨e1, F1, s1, Same.refl _, h⟩ ?_ ?_ ?_
  · rintro i σ' H' _ ⟨ei, Fi, s2, ff, _⟩
    exact gk H' (fun a o z => s2.agr.sub a o (ff a o z)) keep_nil
  · rintro i x0 σ' H2 H3 hi ⟨ei, Fi, s2, ff, k⟩ hY
    obtain ⟨d, hd, yo⟩ := yk i H2 x0 H3 hi (fun a o z => s2.agr.sub a o (ff a o z)) keep_nil hY
    obtain ⟨F3, s3, dx, ff3⟩ : ∃ F3, Step X.K T e σ F H ei σ' F3 H3 ∧ Dp X.K F3 x0 d ∧ Same Fi F3 := by
      rcases yo with ⟨rfl, hx0⟩ | ⟨p0, ws, ds, hp, rfl, rfl, rfl, hds⟩
      · exact ⟨Fi, s2, Dp.mono ff hx0, Same.refl _⟩
      · have fp := s2.agr.sub.free hp
        exact ⟨_, s2.newKnown (o := .tup ws) hp (by intro ps z; cases z), .tup (.of upd_same) (DpAll.mono (same_upd fp) (DpAll.mono ff hds)), same_upd fp⟩
    have dr : xs.drop i = d :: xs.drop (i + 1) := by
      obtain ⟨lt, e0⟩ := List.getElem?_eq_some_iff.mp hd
      rw [← e0]
      exact List.drop_eq_getElem_cons lt
    rw [dr, forL_cons] at k
    cases hb : bindT tg d ei with
    | none =>
      have : bodyF Φ C L tg body d ei = .stuck := by unfold bodyF; rw [hb]
      rw [this] at k
      exact k.elim
    | some e3 =>
      have bf : bodyF Φ C L tg body d ei = execS Φ C L body e3 := by unfold bodyF; rw [hb]
      rw [bf] at k
      refine ⟨ei, F3, d, e3, s3.agr, dx, hb, fun σ2 g2 bn => ⟨e3, F3, g2, ?_⟩⟩
      have s4 := step_bnd s3 g2 bn
      cases hk : execS Φ C L body e3 with
      | next e4 => simp only [hk] at k; exact fun F5 H5 σ5 s5 => ⟨e4, F5, s4.trans s5, (ff.trans ff3).trans s5.ff, k⟩
      | cont e4 => simp only [hk] at k; exact fun F5 H5 σ5 s5 => ⟨e4, F5, s4.trans s5, (ff.trans ff3).trans s5.ff, k⟩
      | brk e4 => simp only [hk] at k; exact fun F5 H5 σ5 s5 => k F5 H5 σ5 (s4.trans s5)
      | ret x e4 => simp only [hk] at k; exact fun F5 H5 σ5 v s5 r5 => k F5 H5 σ5 v (s4.trans s5) (res_early s4 r5)
      | exc cc dd e4 => simp only [hk] at k; exact fun F5 H5 σ5 dx v s5 => k F5 H5 σ5 dx v (s4.trans s5)
      | stuck => simp only [hk] at k; exact k.elim
  · rintro σ' H' ⟨ei, Fi, s2, ff, k⟩
    rw [List.drop_length] at k
    exact k Fi H' σ' s2
theorem for_lim {T : List (Addr × Str)} {cls : Nat → Addr} {W : WX} {Φ : Fun} {C : List D} {L : Nat} {X : Cx} {tg : IE} {body : IS} {e e1 : En} {σ : L2.St} {F H F1 H1 : Hp} {Ds : Ends} {xs : List D} {J : It}
    (s1 : Step X.K T e σ F H e1 σ F1 H1) (io : IterOk X.K F1 [] xs J) (h : GoodS X.K T cls W (if xs.length ≤ lim then forL (bodyF Φ C L tg body) xs e1 else .stuck) e σ F H Ds) :
    ∃ Wv : Nat → Nat → L2.St → Hp → Prop, (∃ m, Wv 0 m σ H1) ∧ ∀ i m σ H, Wv i m σ H → (J.stop i H ∧ Ds.nx σ H) ∨ (J.go i H ∧ ∃ N : L2.St → Hp → Prop, (∀ σ' H', N σ' H' → ∃ m', m' < m ∧ Wv (i + 1) m' σ' H') ∧
      ∀ x H', J.yld i H x H' → tG X.K T tg x σ H' fun σ2 H2 => tS X.K T cls W Φ C L body { Ds with nx := N, ct := N, bk := Ds.nx } σ2 H2) := by
  split at h
  · exact for_core s1 io h
  · exact h.elim
theorem sndp_for (tg it : IE) {body : IS} (hb : SndP w body) : SndP w (.forr tg it body) := sndp_of rfl fun {T cls W Φ C n L X} c s hx => by
  cases s <;> first | exact (Bool.false_ne_true hx).elim | skip
  rename_i t i xs ys p
  have hx : (chkE w X.N X.env.scope it i && noSet i && okTg it tg && chkT X.N X.env.scope tg t && chkX w X.N X.env.scope body xs && ys.isEmpty) = true := hx
  simp only [Bool.and_eq_true] at hx
  obtain ⟨⟨⟨⟨⟨h1, h2⟩, h3⟩, h4⟩, h5⟩, h6⟩ := hx
  cases ys <;> first | (cases h6; done) | skip
  have pg := (pg_tg (T := T) (sc := X.env.scope) c.c.nd c.c.calm c.loc tg).1 t h4
  have pb := hb.all (L := L) c xs h5
  have ev : ∀ e, execS Φ C L (.forr tg it body) e = (keepI it (evalE Φ C it .i e)).bindS fun d e1 => match itemsOf d with
      | some xs => if xs.length ≤ lim then forL (bodyF Φ C L tg body) xs e1 else .stuck
      | none => .stuck := fun e => rfl
  by_cases hv : ∃ j, it = .var j
  · obtain ⟨j, rfl⟩ := hv
    refine ps_weak (ps_for (pos := p) c.hp c.c.calm (pi_seq ((snd_var (w := w) j).e c.c i h1)) pg pb (fun _ => folded_plain h2)) fun Ds σ H h => ?_
    obtain ⟨e, F, g, h⟩ := h
    rw [ev] at h
    have h : GoodS X.K T cls W ((keepR (evalE Φ C (.var j) .v e)).bindS fun d e1 => match itemsOf d with
      | some xs => if xs.length ≤ lim then forL (bodyF Φ C L tg body) xs e1 else .stuck
      | none => .stuck) e σ F H Ds := h
    refine ⟨e, F, g, good_imp (q1 := true) (good_keepS (q1 := true) (Step.refl g) (outS_b h)) id ?_⟩
    rintro v H1 ⟨d, e1, F1, hr, s1, d1, q1, k1⟩
    cases hd : itemsOf d with
    | none => rw [hd] at k1; exact k1.elim
    | some zs =>
      cases d <;> first | (cases hd; done) | skip
      · cases hd
        cases d1 with
        | lst w1 w2 =>
          rename_i a vs
          exact ⟨a, rfl, .inl ⟨⟨vs, s1.agr.sub.seq w1⟩, for_lim s1 (iter_lst (fun G sg _ => sg.seq w1) w2) k1⟩⟩
      · cases hd
        cases d1 with
        | tup w1 w2 =>
          rename_i a vs
          exact ⟨a, rfl, .inr ⟨⟨vs, seqT s1.agr.sub w1⟩, for_lim s1 (iter_tup (fun G sg _ => seqT sg w1) w2) k1⟩⟩
  · refine ps_weak (ps_for (pos := p) c.hp c.c.calm ((snd_all (w := w) it).2.2 c.c i t tg X.env.scope h1 h3 h4) pg pb (fun _ => folded_plain h2)) fun Ds σ H h => ?_
    obtain ⟨e, F, g, h⟩ := h
    rw [ev] at h
    refine ⟨e, F, g, ?_⟩
    cases r : evalE Φ C it .i e with
    | stuck =>
      rw [r] at h
      have : keepI it (Out.stuck : Out (D × Fl)) = .stuck := by cases it <;> rfl
      rw [this] at h
      exact h.elim
    | exc cc d e1 =>
      rw [r] at h
      have : keepI it (Out.exc cc d e1 : Out (D × Fl)) = .exc cc d e1 := by cases it <;> rfl
      rw [this] at h
      exact fun F' H' dx v s2 => h F' H' σ dx v s2
    | ok x e1 =>
      rw [r] at h
      obtain ⟨d, f⟩ := x
      cases nb : f.isBr with
      | true =>
        cases f <;> first | (cases nb; done) | skip
        rename_i j
        have : keepI it (Out.ok (d, Fl.br j) e1 : Out (D × Fl)) = .stuck := by
          cases it <;> first | rfl | exact absurd ⟨_, rfl⟩ hv
        rw [this] at h
        exact h.elim
      | false =>
        have : keepI it (Out.ok (d, f) e1 : Out (D × Fl)) = .ok d e1 := by
          cases f <;> first | (cases nb; done) | (cases it <;> first | rfl | exact absurd ⟨_, rfl⟩ hv)
        rw [this] at h
        have h : GoodS X.K T cls W (match itemsOf d with
          | some xs => if xs.length ≤ lim then forL (bodyF Φ C L tg body) xs e1 else .stuck
          | none => .stuck) e σ F H Ds := h
        show (match itemsOf d with | some xs => _ | none => False)
        cases hd : itemsOf d with
        | none => rw [hd] at h; exact h.elim
        | some zs =>
          intro F1 H1 J Lk s1 io kp nl _
          have := nl nb
          subst this
          rw [hd] at h
          have h : GoodS X.K T cls W (if zs.length ≤ lim then forL (bodyF Φ C L tg body) zs e1 else .stuck) e σ F H Ds := h
          split at h
          · exact for_core s1 io h
          · exact h.elim
end
end TI

set_option Elab.async false
set_option autoImplicit false
set_option maxRecDepth 100000
set_option maxHeartbeats 8000000
set_option linter.all false
/-! TI26: several names at once. -/
namespace TI
open PySem PySem.Spec PyProof.Rows L2
theorem star_any {p : Expr} (h : plainX p = true) : (match p with | .Starred .. => true | _ => false) = false := by
  cases p <;> first | rfl | (cases h)
theorem sw_par {y z : Str} {py pz pt pt2 : Pos} {k k2 : Nat} {p q : Expr} {env : Env} (hk : env.scope.kind = .function) (hy : env.scope.names.lookup y = some .local) (hz : env.scope.names.lookup z = some .local) (ln : (pz.line == py.line) = true) (ne : (z == y) = false)
    (pp : plainX p = true) (pq : plainX q = true) (f1 : [p, q].all (foldedForSure 8) = false) (f2 : [p, q].all (constantsAlone 8) = false) : swappedStores [.Tuple [.Name y py, .Name z pz] k pt] (.Tuple [p, q] k2 pt2) env = Pure.pure (some [y, z]) := by
  have hb : env.blockKind = .function := by unfold Env.blockKind; rw [hk]; rfl
  have ky : env.kindOf y = some .local := hy
  have kz : env.kindOf z = some .local := hz
  have ll : (py.line == py.line) = true := beq_self_eq_true _
  unfold swappedStores
  simp only [hb, List.length_cons, List.length_nil, List.any_cons, List.any_nil, star_any pp, star_any pq, List.filterMap_cons, List.filterMap_nil, List.head?_cons, Option.map_some, Option.getD_some, Expr.pos, ky, kz, ln, ll, f1, f2]
  simp [List.eraseDups, List.eraseDupsBy, List.eraseDupsBy.loop, ne]
  rintro (h | h)
  · cases p <;> first | (cases h; done) | (cases pp; done)
  · cases q <;> first | (cases h; done) | (cases pq; done)
section
variable {K : PySem.W.Frag} {T : List (Addr × Str)} {e e1 e2 e3 : En} {σ σ1 : L2.St} {F F1 F2 H H1 H2 : Hp}
/-- a second result, behind the first one's store -/
theorem res_put {x y : D × Fl} {v u : V} {i : Nat} (r1 : Res K e σ H e1 σ F1 H1 x v) (r2 : Res K e1 σ H1 e2 σ F2 H2 y u) (s1 : Step K T e σ F H e1 σ F1 H1) (s2 : Step K T e1 σ F1 H1 e2 σ F2 H2) (nb : x.2.isBr = false) (hp : putS e2 i (slotOf x) = some e3) (ny : y.2.isBr = false) : Res K e σ H e3 (σ.set i (some v)) F2 H2 y u := by
  obtain ⟨d, f⟩ := y
  cases f with
  | br j => cases ny
  | val => exact r2
  | xt => exact r2
  | x1 => exact r2
  | fr =>
    obtain ⟨xs, a, vs, h1, h2, h3, h4, h5, h6, h7⟩ := res_cur s1 r2
    refine ⟨xs, a, vs, h1, h2, h3, h4, h5, fun ⟨j, t, zs, z1, z2, z3⟩ => ?_, h7⟩
    unfold putS at hp
    split at hp
    · rename_i li
      have e0 : e3 = e2.set i (slotOf x) := by
        split at hp
        · cases hp
        · exact (Option.some.inj hp).symm
      subst e0
      have ls : i < σ.length := by rw [← s2.agr.len]; exact li
      rcases get_set z1 with ⟨rfl, rfl⟩ | ⟨n, z1⟩
      · obtain ⟨dx, fx⟩ := x
        cases fx with
        | br j => cases nb
        | val => cases dx <;> cases z2
        | xt => cases dx <;> cases z2
        | x1 => cases dx <;> cases z2
        | fr =>
          obtain ⟨xs', a', vs', k1, k2, k3, k4, k5, k6, k7⟩ := r1
          subst k2
          rw [List.getElem?_set_self ls] at z3
          cases z3
          obtain ⟨xs2, a2, vs2, m1, m2, m3, m4, m5, m6, m7⟩ := r2
          rw [h2] at m2
          cases m2
          rcases m7 with m | m
          · rw [k4] at m; cases m
          · exact k6 m
      · rw [List.getElem?_set_ne (fun z => n z.symm)] at z3
        exact h6 ⟨j, t, zs, z1, z2, z3⟩
    · cases hp
end
section
variable {w : Nm}
/-- not both of them plain locals: the pair is made -/
theorem sw_none {y z : Str} {py pz pt pt2 : Pos} {k k2 : Nat} {p q : Expr} {env : Env} (h : (decide (env.scope.names.lookup y = some .local) && decide (env.scope.names.lookup z = some .local)) = false) : swappedStores [.Tuple [.Name y py, .Name z pz] k pt] (.Tuple [p, q] k2 pt2) env = Pure.pure none := by
  have hb : (env.kindOf y == some .local) = false ∨ (env.kindOf z == some .local) = false := by
    rw [Bool.and_eq_false_iff] at h
    exact h.imp (fun h => beq_eq_false_iff_ne.mpr (of_decide_eq_false h)) fun h => beq_eq_false_iff_ne.mpr (of_decide_eq_false h)
  have hl : (([.Name y py, .Name z pz] : List Expr).filterMap fun
    | .Name id pos => if env.kindOf id == some .local && pos.line == (([.Name y py, .Name z pz] : List Expr).head?.map (·.pos.line)).getD 0 then some id else none
    | _ => none).length ≠ 2 := by
    generalize hf : (fun x : Expr => (match x with
      | .Name id pos => if (env.kindOf id == some .local && pos.line == (([.Name y py, .Name z pz] : List Expr).head?.map (·.pos.line)).getD 0) = true then some id else none
      | _ => none : Option Str)) = f
    rcases hb with e | e
    · have e1 : f (.Name y py) = none := by rw [← hf]; simp [e]
      have l1 := List.length_filterMap_le f [Expr.Name z pz]
      rw [List.filterMap_cons_none e1]
      exact fun z0 => by rw [z0] at l1; exact absurd (show 2 ≤ 1 from l1) (by decide)
    · have e1 : f (.Name z pz) = none := by rw [← hf]; simp [e]
      have l1 := List.length_filterMap_le f [Expr.Name y py]
      have e2 : [Expr.Name y py, Expr.Name z pz] = [Expr.Name y py] ++ [Expr.Name z pz] := rfl
      rw [e2, List.filterMap_append, List.filterMap_cons_none e1, List.filterMap_nil, List.append_nil]
      exact fun z0 => by rw [z0] at l1; exact absurd (show 2 ≤ 1 from l1) (by decide)
  unfold swappedStores
  dsimp only
  split
  · rfl
  · split
    · rfl
    · exact if_pos (by rw [Bool.or_eq_true]; exact .inl (bne_iff_ne.mpr hl))
theorem res_new {K : PySem.W.Frag} {T : List (Addr × Str)} {e e1 : En} {σ σ1 : L2.St} {F1 H H1 : Hp} {x : D × Fl} {v : V} {p : Addr} {o : HO} (r : Res K e σ H e1 σ1 F1 H1 x v) (g : Agr K T e1 σ1 F1 H1) (hp : H1 p = none) (nb : x.2.isBr = false) : Res K e σ H e1 σ1 F1 (upd H1 p o) x v :=
  r.step ((Step.refl g).new hp) rfl fun z => by rw [nb] at z; cases z
theorem par_loc {i j : Nat} {a b : IE} {T : List (Addr × Str)} {cls : Nat → Addr} {W : WX} {Φ : Fun} {C : List D} {n L : Nat} {X : Cx} (c : SCtx w T cls W Φ C n X) {y z : Str} {py pz pt pt2 pos : Pos} {kt k2 : Nat} {p q : Expr} (hx : parL w X.N X.env.scope i j a b y z py pz p q = true) :
    PS X (.Assign [.Tuple [.Name y py, .Name z pz] kt pt] (.Tuple [p, q] k2 pt2) pos) (tS X.K T cls W Φ C L (.par i j a b)) := by
    unfold parL at hx
    simp only [Bool.and_eq_true, decide_eq_true_eq, Bool.not_eq_true'] at hx
    obtain ⟨⟨⟨⟨⟨⟨⟨⟨⟨⟨⟨⟨⟨h1, h2⟩, h3⟩, h4⟩, h5⟩, h6⟩, h7⟩, h8⟩, h9⟩, h10⟩, h11⟩, h12⟩, h13⟩, h14⟩ := hx
    have kf : X.env.scope.kind = .function := by
      cases kk : X.env.scope.kind <;> first | rfl | (rw [kk] at h14; cases h14)
    refine ps_weak (ps_par (pos := pos) c.c.calm c.c.nd h1 h2 h3 h4 h5 (pa_cons ((snd_all a).1.e c.c p h8) (pa_cons ((snd_all b).1.e c.c q h9) pa_nil (star_cons h7)) (star_cons h6)) (sw_par kf h4 h5 h10 h11 h6 h7 h12 h13) (sole_plain rfl)) fun Ds σ H h => ?_
    obtain ⟨e, F, g, h⟩ := h
    refine ⟨e, F, g, good_imp (q1 := pure a) (good_hold (q1 := pure a) (Step.refl g) (outS_s h)) id ?_⟩
    rintro v H1 ⟨x1, e1, F1, hr1, s1, r1, nb1, q1, k1⟩
    refine ⟨e1, F1, s1.agr, good_imp (q1 := pure b) (good_hold (q1 := pure b) s1 (outS_s k1)) id ?_⟩
    rintro u H2 ⟨x2, e2, F2, hr2, s2, r2, nb2, q2, k2⟩
    refine ⟨v, u, rfl, ?_⟩
    cases p1 : putS e2 i (slotOf x1) with
    | none => rw [p1] at k2; exact k2.elim
    | some e3 =>
      rw [p1] at k2
      have k2 : GoodS X.K T cls W (optS (putS e3 j (slotOf x2))) e σ F H Ds := k2
      cases p2 : putS e3 j (slotOf x2) with
      | none => rw [p2] at k2; exact k2.elim
      | some e4 =>
        rw [p2] at k2
        have s3 := step_put (s1.trans s2) (r1.step s2 rfl (by rw [nb1]; intro z; cases z)) nb1 p1
        exact k2 F2 H2 _ (step_put s3 (res_put r1 r2 s1 s2 nb1 p1 nb2) nb2 p2)
theorem par_cell {i j : Nat} {a b : IE} {T : List (Addr × Str)} {cls : Nat → Addr} {W : WX} {Φ : Fun} {C : List D} {n L : Nat} {X : Cx} (c : SCtx w T cls W Φ C n X) {y z : Str} {py pz pt pt2 pos : Pos} {kt k2 : Nat} {p q : Expr} (hx : parC w X.N X.env.scope i j a b y z p q = true) :
    PS X (.Assign [.Tuple [.Name y py, .Name z pz] kt pt] (.Tuple [p, q] k2 pt2) pos) (tS X.K T cls W Φ C L (.par i j a b)) := by
  unfold parC at hx
  rw [Bool.and_eq_true, Bool.and_eq_true, Bool.and_eq_true, Bool.and_eq_true, Bool.and_eq_true, Bool.and_eq_true, Bool.and_eq_true, Bool.and_eq_true] at hx
  obtain ⟨⟨⟨⟨⟨⟨⟨⟨h1, h2⟩, h3⟩, h4⟩, h5⟩, h6⟩, h7⟩, h8⟩, h9⟩ := hx
  have h1 := of_decide_eq_true h1
  have h2 := of_decide_eq_true h2
  have h5 : (decide (X.env.scope.names.lookup y = some .local) && decide (X.env.scope.names.lookup z = some .local)) = false := by rw [Bool.not_eq_true', Bool.and_eq_false_iff] at h5; rw [Bool.and_eq_false_iff]; exact h5
  refine ps_weak (ps_asg (pos := pos) (pe_tup (pos := pt2) (x1 := k2) (pa_cons ((snd_all a).1.e c.c p h8) (pa_cons ((snd_all b).1.e c.c q h9) pa_nil (star_cons h7)) (star_cons h6)))
    (pg_tup (pos := pt) (k := kt) c.c.calm (pgs_cons (pg_name (pos := py) c.c.nd h1 (c.loc y h3).1 (c.loc y h3).2) (pgs_cons (pg_name (pos := pz) c.c.nd h2 (c.loc z h4).1 (c.loc z h4).2) pgs_nil)) rfl rfl) (sole_plain rfl) (sw_none h5) rfl) fun Ds σ H h => ?_
  obtain ⟨e, F, g, h⟩ := h
  refine ⟨e, F, g, good_imp (q1 := pure a) (good_hold (q1 := pure a) (Step.refl g) (outS_s h)) id ?_⟩
  rintro v H1 ⟨x1, e1, F1, hr1, s1, r1, nb1, q1, k1⟩
  refine ⟨e1, F1, s1.agr, good_imp (q1 := pure b) (good_hold (q1 := pure b) s1 (outS_s k1)) id ?_⟩
  rintro u H2 ⟨x2, e2, F2, hr2, s2, r2, nb2, q2, k2⟩
  refine ⟨Nat.le_of_lt (small1000 (Nat.le_of_ble_eq_true rfl)), fun p0 hp0 => ⟨p0, [v, u], rfl, .inl (.inl upd_same), rfl, v, [u], rfl, u, [], rfl, rfl, ?_⟩⟩
  cases p1 : putS e2 i (slotOf x1) with
  | none => rw [p1] at k2; exact k2.elim
  | some e3 =>
    rw [p1] at k2
    have k2 : GoodS X.K T cls W (optS (putS e3 j (slotOf x2))) e σ F H Ds := k2
    cases p2 : putS e3 j (slotOf x2) with
    | none => rw [p2] at k2; exact k2.elim
    | some e4 =>
      rw [p2] at k2
      have r1' : Res X.K e σ H e2 σ F2 H2 x1 v := r1.step s2 rfl (by rw [nb1]; intro z; cases z)
      have t3 := res_new (o := .tup [v, u]) r1' s2.agr hp0 nb1
      have s3 := step_put ((s1.trans s2).new (o := .tup [v, u]) hp0) t3 nb1 p1
      have t2 : Res X.K e1 σ H1 e2 σ F2 (upd H2 p0 (.tup [v, u])) x2 u := res_new r2 s2.agr hp0 nb2
      exact k2 F2 _ _ (step_put s3 (res_put r1 t2 s1 (s2.new hp0) nb1 p1 nb2) nb2 p2)
theorem sndp_par (i j : Nat) (a b : IE) : SndP w (.par i j a b) := sndp_of rfl fun {T cls W Φ C n L X} c s hx => by
  cases s <;> first | exact (Bool.false_ne_true hx).elim | skip
  rename_i ts x pos
  match ts, x, hx with
  | [.Tuple [.Name y py, .Name z pz] kt pt], .Tuple [p, q] k2 pt2, hx =>
    rcases Bool.or_eq_true_iff.mp (show (parL w X.N X.env.scope i j a b y z py pz p q || parC w X.N X.env.scope i j a b y z p q) = true from hx) with h | h
    · exact par_loc c h
    · exact par_cell c h
theorem slot_val (d : D) : slotOf (d, .val) = .val d := by cases d <;> rfl
theorem res_putV {K : PySem.W.Frag} {e e1 e2 : En} {σ σ1 : L2.St} {F H H' : Hp} {z : D × Fl} {v w : V} {d : D} {i : Nat} (r : Res K e σ H e1 σ1 F H' z w) (nz : z.2.isBr = false) (hp : putS e1 i (.val d) = some e2) : Res K e σ H e2 (σ1.set i (some v)) F H' z w := by
  obtain ⟨d0, f⟩ := z
  cases f with
  | val => exact r
  | xt => exact r
  | x1 => exact r
  | br j => cases nz
  | fr =>
    obtain ⟨xs, a, us, h1, h2, h3, h4, h5, h6, h7⟩ := r
    refine ⟨xs, a, us, h1, h2, h3, h4, h5, fun ⟨j, t, ys, z1, z2, z3⟩ => ?_, h7⟩
    unfold putS at hp
    split at hp
    · have e0 : e2 = e1.set i (.val d) := by
        split at hp
        · cases hp
        · exact (Option.some.inj hp).symm
      rw [e0] at z1
      rcases get_set z1 with ⟨_, y⟩ | ⟨n, y⟩
      · rw [y] at z2; cases z2
      · rw [List.getElem?_set_ne (fun z => n z.symm)] at z3
        exact h6 ⟨j, t, ys, y, z2, z3⟩
    · cases hp
theorem sw_par3 {y z u : Str} {py pz pu pt pt2 : Pos} {k k2 : Nat} {p q r : Expr} {env : Env} (hk : env.scope.kind = .function) (hy : env.scope.names.lookup y = some .local) (hz : env.scope.names.lookup z = some .local) (hu : env.scope.names.lookup u = some .local) (l1 : (pz.line == py.line) = true) (l2 : (pu.line == py.line) = true)
    (n1 : (z == y) = false) (n2 : (u == y) = false) (n3 : (u == z) = false) (pp : plainX p = true) (pq : plainX q = true) (pr : plainX r = true) (f1 : [p, q, r].all (foldedForSure 8) = false) (f2 : [p, q, r].all (constantsAlone 8) = false) :
    swappedStores [.Tuple [.Name y py, .Name z pz, .Name u pu] k pt] (.Tuple [p, q, r] k2 pt2) env = Pure.pure (some [y, z, u]) := by
  have hb : env.blockKind = .function := by unfold Env.blockKind; rw [hk]; rfl
  have ky : env.kindOf y = some .local := hy
  have kz : env.kindOf z = some .local := hz
  have ku : env.kindOf u = some .local := hu
  have ll : (py.line == py.line) = true := beq_self_eq_true _
  unfold swappedStores
  simp only [hb, List.length_cons, List.length_nil, List.any_cons, List.any_nil, star_any pp, star_any pq, star_any pr, List.filterMap_cons, List.filterMap_nil, List.head?_cons, Option.map_some, Option.getD_some, Expr.pos, ky, kz, ku, l1, l2, ll, f1, f2]
  simp [List.eraseDups, List.eraseDupsBy, List.eraseDupsBy.loop, n1, n2, n3]
  rintro (h | h | h)
  · cases p <;> first | (cases h; done) | (cases pp; done)
  · cases q <;> first | (cases h; done) | (cases pq; done)
  · cases r <;> first | (cases h; done) | (cases pr; done)
theorem sndp_par3 (i j k : Nat) (a b c0 : IE) : SndP w (.par3 i j k a b c0) := sndp_of rfl fun {T cls W Φ C n L X} c s hx => by
  cases s <;> first | exact (Bool.false_ne_true hx).elim | skip
  rename_i ts x pos
  match ts, x, hx with
  | [.Tuple [.Name y py, .Name z pz, .Name u pu] kt pt], .Tuple [p, q, r] k2 pt2, hx =>
    have hx : par3L w X.N X.env.scope i j k a b c0 y z u py pz pu p q r = true := hx
    unfold par3L at hx
    simp only [Bool.and_eq_true, decide_eq_true_eq, Bool.not_eq_true'] at hx
    obtain ⟨⟨⟨⟨⟨⟨⟨⟨⟨⟨⟨h1, h2⟩, h3⟩, ⟨i1, i2⟩, i3⟩, ⟨m1, m2⟩, m3⟩, ⟨x1, x2⟩, x3⟩, ⟨g1, g2⟩, g3⟩, l1, l2⟩, ⟨n1, n2⟩, n3⟩, f1⟩, f2⟩, h14⟩ := hx
    have kf : X.env.scope.kind = .function := by
      cases kk : X.env.scope.kind <;> first | rfl | (rw [kk] at h14; cases h14)
    refine ps_weak (ps_par3 (pos := pos) c.c.calm c.c.nd h1 h2 h3 i1 i2 i3 m1 m2 m3 (pa_cons ((snd_all a).1.e c.c p g1) (pa_cons ((snd_all b).1.e c.c q g2) (pa_cons ((snd_all c0).1.e c.c r g3) pa_nil (star_cons x3)) (star_cons x2)) (star_cons x1)) (sw_par3 kf m1 m2 m3 l1 l2 n1 n2 n3 x1 x2 x3 f1 f2) (sole_plain rfl)) fun Ds σ H h => ?_
    obtain ⟨e, F, g, h⟩ := h
    refine ⟨e, F, g, good_imp (q1 := pure a) (good_hold (q1 := pure a) (Step.refl g) (outS_s h)) id ?_⟩
    rintro v H1 ⟨y1, e1, F1, hr1, s1, r1, nb1, q1, k1⟩
    refine ⟨e1, F1, s1.agr, good_imp (q1 := pure b) (good_hold (q1 := pure b) s1 (outS_s k1)) id ?_⟩
    rintro v2 H2 ⟨y2, e2, F2, hr2, s2, r2, nb2, q2, k2⟩
    refine ⟨e2, F2, s2.agr, good_imp (q1 := pure c0) (good_hold (q1 := pure c0) (s1.trans s2) (outS_s k2)) id ?_⟩
    rintro v3 H3 ⟨y3, e3, F3, hr3, s3, r3, nb3, q3, k3⟩
    refine ⟨v, v2, v3, rfl, ?_⟩
    obtain ⟨d1, fl1⟩ := y1
    obtain ⟨d2, fl2⟩ := y2
    cases fl1 <;> cases fl2 <;> first | exact k3.elim | skip
    have k3 : GoodS X.K T cls W (optS ((putS e3 i (.val d1)).bind fun e4 => (putS e4 j (.val d2)).bind fun e5 => putS e5 k (slotOf y3))) e σ F H Ds := k3
    have D1 : Dp X.K F3 v d1 := Dp.mono s3.ff (Dp.mono s2.ff r1)
    have D2 : Dp X.K F3 v2 d2 := Dp.mono s3.ff r2
    have s0 := (s1.trans s2).trans s3
    cases p1 : putS e3 i (.val d1) with
    | none => rw [p1] at k3; exact k3.elim
    | some e4 =>
      rw [p1] at k3
      have k3 : GoodS X.K T cls W (optS ((putS e4 j (.val d2)).bind fun e5 => putS e5 k (slotOf y3))) e σ F H Ds := k3
      have t1 := step_put (x := (d1, .val)) (v := v) s0 D1 rfl (by rw [slot_val]; exact p1)
      cases p2 : putS e4 j (.val d2) with
      | none => rw [p2] at k3; exact k3.elim
      | some e5 =>
        rw [p2] at k3
        have k3 : GoodS X.K T cls W (optS (putS e5 k (slotOf y3))) e σ F H Ds := k3
        have t2 := step_put (x := (d2, .val)) (v := v2) t1 D2 rfl (by rw [slot_val]; exact p2)
        cases p3 : putS e5 k (slotOf y3) with
        | none => rw [p3] at k3; exact k3.elim
        | some e6 =>
          rw [p3] at k3
          have w0 := res_cur (s1.trans s2) r3
          exact k3 F3 H3 _ (step_put t2 (res_putV (res_putV w0 nb3 p1) nb3 p2) nb3 p3)
theorem sndp_raise (k : Nat) (a : IE) : SndP w (.raise k a) := sndp_of rfl fun {T cls W Φ C n L X} c s hx => by
  cases s <;> first | exact (Bool.false_ne_true hx).elim | skip
  rename_i x y pos
  match x, y, hx with
  | some (.Call (.Name z pz) [p] [] pc), none, hx =>
    have hx : (decide (w.xn[k]? = some z) && glB X.env.scope z && plainX p && chkE w X.N X.env.scope a p) = true := hx
    simp only [Bool.and_eq_true, decide_eq_true_eq] at hx
    obtain ⟨⟨⟨h1, h2⟩, h3⟩, h4⟩ := hx
    obtain ⟨g1, g2⟩ := glB_ok h2
    refine ps_weak (L2N.ps_raise (pos := pos) c.c.calm c.c.tk (c.mkx k z h1 p _ pc pz ((snd_all a).1.e c.c p h4) h3 g1 g2)) fun Ds σ H h => ?_
    obtain ⟨e, F, g, h⟩ := h
    refine ⟨e, F, g, good_imp (q1 := pure a) (good_keepS (q1 := pure a) (Step.refl g) (outS_b h)) id ?_⟩
    rintro v H1 ⟨d, e1, F1, hr, s1, d1, q1, h1⟩
    intro dx hdx
    exact h1 F1 _ σ dx v (s1.new hdx) upd_same d1
end
end TI

set_option Elab.async false
set_option autoImplicit false
set_option maxRecDepth 100000
set_option maxHeartbeats 8000000
set_option linter.all false
/-! TI27: a slice of a list is stored. -/
namespace L2
open PySem PySem.Spec PyProof.Rows
section
variable {prog : Program} {w : World} {A : Around} {E : Value → Shared → Prop} {s : Shared}
theorem put_slice {l b sl : Addr} {its : Array Value} {us : List Value} {n : Nat} {vl vu : Value} {lo hi : Option Int} {Q : Unit → Shared → Prop}
    (e : s.heap.get? l = some { cls := .type "list", data := .seq its n }) (e2 : IsTup s.heap b us.toArray) (hs : s.heap.IsSliceOf sl vl vu .none) (pl : IsPart vl lo) (pu : IsPart vu hi)
    (ac : HT.sIx its.size 0 lo ≤ HT.sIx its.size its.size hi) (sz : its.size + us.length ≤ sizeLine)
    (h : Q () { s with heap := s.heap.update l (Obj.mapSeq fun xs => xs.extract 0 (HT.sIx its.size 0 lo) ++ us.toArray ++ xs.extract (HT.sIx its.size its.size hi) xs.size) }) :
    wpAny (model prog w) A (setItem (.ref l) (.ref sl) (.ref b)) Q E s := by
  have isl : s.heap.IsList l its := PySem.IsL.isList e
  obtain ⟨o2, g2, c2, n2, d2⟩ := id e2
  have ty2 : s.TypeIs (.ref b) "tuple" := ⟨o2, g2, c2⟩
  obtain ⟨os, hos, hcs, hds⟩ := id hs
  have tys : s.TypeIs (.ref sl) "slice" := ⟨os, hos, hcs⟩
  have ne : l ≠ b := fun z => by
    subst z
    rw [g2] at e
    cases e
    exact absurd (show Value.type "list" = Value.type "tuple" from c2) (by decide)
  have same : Builtin.List.listSameRef (.ref l) (.ref b) = false := by
    unfold Builtin.List.listSameRef
    exact beq_eq_false_iff_ne.mpr ne
  have hi_le := HT.sIx_le its.size its.size (Nat.le_refl _) hi
  have mx : (max ((HT.sIx its.size 0 lo : Nat) : Int) ((HT.sIx its.size its.size hi : Nat) : Int)).toNat = HT.sIx its.size its.size hi := by omega
  have bounds : sliceBounds lo hi none its.size = (((HT.sIx its.size 0 lo : Nat) : Int), ((HT.sIx its.size its.size hi : Nat) : Int), 1) := by
    obtain ⟨b1, b2, b3⟩ := slice_bounds lo hi its.size
    exact Prod.ext b1 (Prod.ext b2 b3)
  have z' : ((fun xs : Array Value => xs.extract 0 (HT.sIx its.size 0 lo) ++ us.toArray ++ xs.extract (HT.sIx its.size its.size hi) xs.size) its).size ≤ sizeLine + 1 := by
    simp only [Array.size_append, Array.size_extract, List.size_toArray]
    omega
  unfold setItem
  try with_reducible refine wpAny_holding ?_
  first | refine wpAny_bind (wpAny_pure ?_) | skip
  refine wpAny_bind (wpAny_sequenceKey isl.typeIs (by decide) (wpAny_bind (wpAny_callSpecial?_slot (name := Str.ofString "__setitem__") isl.typeIs slot_list_setitem (wpAny_call_entry slot_list_setitem isl.typeIs entry_list_setitem ?_ (args_list_setitem _ _ _)))))
  show wpAny _ _ (Builtin.List.listSubscript? (.ref sl) >>= _) _ _ s
  refine wpAny_bind ?_
  unfold Builtin.List.listSubscript?
  refine wpAny_bind (wpAny_specialOf tys slice_no_index ?_)
  simp only [Option.isNone_none, if_true]
  refine wpAny_pure ?_
  show wpAny _ _ (typeOf (.ref sl) >>= _) _ _ s
  refine wpAny_bind (wpAny_typeOf tys ?_)
  first
    | rw [if_neg (by decide)]
    | refine PySem.W.KFB.if_not (by decide) ?_
  rw [listSliceParts_eq]
  refine wpAny_bind (wpAny_bind (wpAny_field hos hds (x := .none) rfl (wpAny_bind (wpAny_listPart .none ?_))))
  rw [if_neg (show ¬ ((rawPart none == rawInt 0) = true) from Bool.false_ne_true)]
  refine wpAny_bind (wpAny_field hos hds (x := vl) rfl (wpAny_bind (wpAny_listPart pl ?_)))
  refine wpAny_bind (wpAny_field hos hds (x := vu) rfl (wpAny_bind (wpAny_listPart pu (wpAny_pure ?_))))
  first
    | simp only [same, Bool.false_eq_true, if_false]
    | refine PySem.W.KFB.if_not same ?_
  refine wpAny_bind (m := Builtin.List.listAllItems (.ref b) "must assign iterable to extended slice") ?_
  unfold Builtin.List.listAllItems
  refine wpAny_bind (wpAny_typeOf ty2 ?_)
  first
    | refine PySem.W.KFB.if_so (by decide) ?_
    | rw [if_pos (by decide)]
    | simp only [beq_self_eq_true, Bool.true_or, if_true]
  unfold Builtin.List.listItems
  refine wpAny_bind (wpAny_seqItems g2 d2 (wpAny_pure ?_))
  refine wpAny_bind (wpAny_bind (wpAny_seqItems e rfl (wpAny_pure ?_)))
  refine wpAny_bind (wpAny_of_eq ((sliceIndices_raw lo hi none its.size (by simp)).trans (congrArg (pure : Int × Int × Int → Sem (Int × Int × Int)) bounds)) ?_)
  show wpAny _ _ (if ((1 : Int) == 1) = true then _ else _) _ _ s
  rw [if_pos (by decide)]
  refine wpAny_bind (wpAny_rule ?_)
  have nl := notLongL (n := its.size + us.toArray.size) (by rw [List.size_toArray]; exact sz)
  first
    | simp only [nl, Bool.false_eq_true, if_false]
    | refine PySem.W.KFB.if_not nl ?_
  first | refine wpAny_bind (wpAny_pure ?_) | skip
  show wpAny _ _ (updateSeq l (fun xs => xs.extract 0 (((HT.sIx its.size 0 lo : Nat) : Int)).toNat ++ us.toArray ++ xs.extract (max ((HT.sIx its.size 0 lo : Nat) : Int) ((HT.sIx its.size its.size hi : Nat) : Int)).toNat xs.size) >>= _) _ _ s
  rw [mx, Int.toNat_natCast]
  refine wpAny_bind (wpAny_updateSeq (hz := Nat.le_trans (Nat.le_add_right _ _) sz) (_hz' := z') e rfl ?_)
  refine wpAny_bind (wpAny_letGo ?_)
  first
    | exact wpAny_bind (wpAny_pure (wpAny_pure ⟨.none, rfl, wpAny_pure h⟩))
    | exact wpAny_pure ⟨.none, rfl, wpAny_pure h⟩
end
section
variable {X : Cx} {o : Expr} {lo hi : Option Expr} {to : TE} {tl th : TO} {pos p2 : Pos}
/-- o[lo:hi] = a tuple -/
def gCut (K : PySem.W.Frag) (to : TE) (tl th : TO) : TG := fun v σ H Q => to σ H fun x H1 => tl σ H1 fun l H2 => th σ H2 fun u H3 => ∃ a b xs ys, x = .ref a ∧ v = .ref b ∧ H3 a = some (.lst xs) ∧ SqT K H3 b ys ∧ HT.sIx xs.length 0 l ≤ HT.sIx xs.length xs.length u ∧ xs.length + ys.length ≤ sizeLine ∧
  Q σ (upd H3 a (.lst (xs.take (HT.sIx xs.length 0 l) ++ ys ++ xs.drop (HT.sIx xs.length xs.length u))))
theorem pg_cut (ho : PE X o to) (hl : PO X lo tl) (hu : PO X hi th) : PG X (.Subscript o (.Slice lo hi none p2) pos) (gCut X.K to tl th) := by
  refine ⟨fun pins s σ H v u Q I r h => ?_⟩
  have ha : assign (.Subscript o (.Slice lo hi none p2) pos) X.env u = (do
      let ov ← holding [u] (eval o X.env)
      let iv ← holding [u, ov] (eval (.Slice lo hi none p2) X.env)
      standAt pos
      holding [u, ov, iv] (setItem ov iv u)
      release [iv, u, ov] []) := rfl
  rw [ha]
  refine wpAny_bind (wpAny_holding (thn (ho.run pins s σ H _ I h) fun ov s1 ⟨x, H1, I1, r1, q1⟩ => ?_))
  refine wpAny_bind (wpAny_holding ?_)
  refine wpAny_Slice (thn (hl.run pins s1 σ H1 _ I1 q1) fun vl s2 ⟨l, H2, I2, pl, q2⟩ => thn (hu.run pins s2 σ H2 _ I2 q2) fun vu s3 ⟨w, H3, I3, pu, q3⟩ => ?_)
  rw [evalPart_none]
  refine wpAny_pure ?_
  obtain ⟨a, b, xs, ys, rfl, rfl, h1, h2, h3, h4, q⟩ := q3
  cases r
  cases r1
  have I4 : Inv X pins σ H3 { s3 with heap := s3.heap.push { cls := .type "slice", data := .fields #[vl, vu, .none] } } := I3.kept (t' := s3.toks) fun b ob q => Heap.get?_push_of_some _ q
  obtain ⟨z, its, n, rv, ln, e⟩ := I4.lstM h1
  obtain ⟨us, rw_, pt, z2⟩ := I4.tuple h2
  have l2 := rw_.length
  have sz : its.toArray.size = xs.length := by rw [List.size_toArray]; exact ln.symm
  refine wpAny_bind (wpAny_standAt (wpAny_bind (wpAny_holding (put_slice e pt (Heap.IsSliceOf.new ..) pl pu (by rw [sz]; exact h3) (by rw [sz, ← l2]; exact h4) ?_))))
  rw [sz]
  refine wpAny_release ⟨σ, _, I4.lset (its' := its.take (HT.sIx xs.length 0 l) ++ us ++ its.drop (HT.sIx xs.length xs.length w)) (t' := s3.toks) h1 e ?_ (Vals.append (Vals.append (rv.take _) rw_) (rv.drop _)) ?_, q⟩
  · exact splice_eq its us _ _
  · have := HT.sIx_le xs.length xs.length (Nat.le_refl _) w
    rw [List.length_append, List.length_append, List.length_take, List.length_drop]
    omega
end
end L2

set_option Elab.async false
set_option autoImplicit false
set_option maxRecDepth 100000
set_option maxHeartbeats 8000000
set_option linter.all false
/-! TI28: every statement runs as its tree says. -/
namespace TI
open PySem PySem.Spec PyProof.Rows L2
section
variable {w : Nm}
theorem sndp_setsl (i : Nat) (lo hi v : IE) : SndP w (.setsl i lo hi v) := sndp_of rfl fun {T cls W Φ C n L X} c s hx => by
  cases s <;> first | exact (Bool.false_ne_true hx).elim | skip
  rename_i ts x pos
  match ts, hx with
  | [.Subscript (.Name y py) (.Slice l h none p2) p], hx =>
    have hx : (noComp x && nameAt X.N X.env.scope i y && optX w X.N X.env.scope lo l && optX w X.N X.env.scope hi h && chkE w X.N X.env.scope v x) = true := hx
    simp only [Bool.and_eq_true] at hx
    obtain ⟨⟨⟨⟨h1, h2⟩, h3⟩, h4⟩, h5⟩ := hx
    obtain ⟨n1, n2, n3, n4⟩ := nameAt_ok h2
    obtain ⟨tl, pl, kl⟩ := po_of (T := T) (cls := cls) (W := W) (Φ := Φ) (C := C) c.c (a := lo) (fun _ => (snd_all lo).1) (l := l) h3
    obtain ⟨th, ph, kh⟩ := po_of (T := T) (cls := cls) (W := W) (Φ := Φ) (C := C) c.c (a := hi) (fun _ => (snd_all hi).1) (l := h) h4
    refine ps_weak (ps_asg (pos := pos) ((snd_all v).1.e c.c x h5) (pg_cut (pos := p) (p2 := p2) (pe_var (pos := py) n1 n2 n3 n4) pl ph) (sole_plain h1) (by cases x <;> rfl) rfl) fun Ds σ H hh => ?_
    obtain ⟨e, F, g, hh⟩ := hh
    refine ⟨e, F, g, good_imp (q1 := pure v) (good_outS (q1 := pure v) (Step.refl g) (outS_s hh)) id ?_⟩
    rintro u H1 ⟨x1, e1, F1, hr, s1, r1, q1, k1⟩
    obtain ⟨d, f⟩ := x1
    cases hd : isHeld e1 i with
    | false => cases d <;> (simp only [hd] at k1; exact k1.elim)
    | true =>
      cases d <;> first | (simp only [hd] at k1; exact k1.elim) | skip
      rename_i ys
      simp only [hd] at k1
      have nb : f.isBr = false := by
        cases f <;> first | rfl | skip
        obtain ⟨_, _, _, z, _⟩ := r1
        cases z
      obtain ⟨F2, s2, d2, ff⟩ := r1.keep s1 nb
      obtain ⟨a0, ha⟩ := isHeld_at s1.agr hd
      refine ⟨.ref a0, ha, ?_⟩
      refine kl (q := true) (Step.refl s2.agr) (outS_H s2 (outS_b k1)) fun l0 e2 F3 H3 s3 q3 k3 => ?_
      refine kh (q := true) (Step.refl s3.agr) (outS_H (s2.trans s3) (outS_b k3)) fun u0 e3 F4 H4 s4 q4 k4 => ?_
      cases hm : modL e3 i fun xs => spliceL xs l0 u0 ys with
      | none => rw [hm] at k4; exact k4.elim
      | some e4 =>
        rw [hm] at k4
        obtain ⟨a, xs, zs, vs, w1, w2, w3, w4, w5⟩ := mod_at ((s2.trans s3).trans s4) hm
        rw [ha] at w1
        cases w1
        unfold spliceL at w4
        split at w4
        · rename_i hz
          cases w4
          have d4 := Dp.mono s4.ff (Dp.mono s3.ff d2)
          cases d4 with
          | tup t1 t2 =>
            rename_i b us
            refine ⟨a0, b, vs, us, rfl, rfl, w2, seqT s4.agr.sub t1, ?_, ?_, k4 F4 _ σ (w5 _ ?_)⟩
            · rw [sIx_cut, sIx_cut, w3.length]; exact hz.1
            · rw [w3.length, t2.length, ← lim_eq]; exact hz.2
            · rw [sIx_cut, sIx_cut, w3.length]
              exact ((w3.take _).append t2).append (w3.drop _)
        · cases w4
theorem sndp_all (is : IS) : SndP w is := by
  induction is with
  | nil => exact sndp_nil
  | cons a r iha ihr => exact sndp_cons iha ihr
  | expr a => exact sndp_expr a
  | set i a => exact sndp_set i a
  | par i j a b => exact sndp_par i j a b
  | par3 i j k a b c => exact sndp_par3 i j k a b c
  | unpack tg a => exact sndp_unpack tg a
  | setix i k v => exact sndp_setix i k v
  | setsl i lo hi v => exact sndp_setsl i lo hi v
  | app i a => exact sndp_app i a
  | ext i a => exact sndp_ext i a
  | ret a => exact sndp_ret a
  | retN => exact sndp_retN
  | ite t a b iha ihb => exact sndp_ite t iha ihb
  | forr tg it body ih => exact sndp_for tg it ih
  | whil t body ih => exact sndp_while t ih
  | raise k a => exact sndp_raise k a
  | pass => exact sndp_pass
  | brk => exact sndp_brk
  | cont => exact sndp_cont
end
end TI

set_option Elab.async false
set_option autoImplicit false
set_option maxRecDepth 100000
set_option maxHeartbeats 4000000
set_option linter.all false
/-! TI29: a lambda handed to a def: the tables are those of T throughout, exceptions leave it with their context. -/
namespace TI
open PySem PySem.Spec PyProof.Rows L2 LamX
section
variable {X : Cx} {pins : List (Addr × Obj)} {σ : L2.St} {H HZ : Hp} {s s1 : Shared}
abbrev lamQ (X : Cx) : Str := X.env.qual ++ "<lambda>"
abbrev lamO (X : Cx) (ps : Arguments) (x : Expr) (cs : Scope) (pm : Value) (c' : Addr) (ctv : Value) : Obj := PySem.W.kla_obj "<lambda>" (lamQ X) ps x cs (cloFrom X.env.cells cs.names []) pm c' ctv
theorem inv_nofr (I : Inv X pins σ H s) {f : Addr} (hf : s.heap.objs.size ≤ f) : f ∉ frs X.stack := fun z => by
  rcases List.mem_cons.mp (I.stkSub _ z) with e | e
  · have h1 := I.lt
    rw [← e] at h1
    exact Nat.lt_irrefl _ (Nat.lt_of_lt_of_le h1 hf)
  · exact I.nofs hf e
theorem snoc_toList (l : Array Value) (a b c : Value) : (l ++ #[a, b, c]).toList = l.toList ++ [a, b, c] := by simp
theorem lamN_make {T : List (Addr × Str)} {c P : Addr} {ps : Arguments} {x : Expr} {cs : Scope} {pos : Pos} {E Q : Value → Shared → Prop} (I : Inv X pins σ H s) (TB : TabB X.base X.mg c P) (hcode : X.env.code = .ref c) (hm : (P, lamQ X) ∈ T)
    (hu : ∀ p ∈ T, p.1 = P → p.2 = lamQ X) (hT : TabX T H) (hdef : defaultsOf ps X.env = ([], [])) (hfree : ∀ y ∈ cs.names, y.2 = .free → ∃ c, X.env.cells.lookup y.1 = some c)
    (h : ∀ (f c' : Addr) (pm ctv : Value) (H1 : Hp) (s' : Shared), Inv X pins σ H1 s' → ExtN H H1 → TabX T H1 → (∀ a, H a ≠ none → H1 a ≠ none) → s'.heap.get? f = some (lamO X ps x cs pm c' ctv) → H1 f = none → f ∉ frs X.stack → H1 c' = some (CodeO c' (lamQ X)) → Q (.ref f) s') :
    wpAny (model X.prog X.w) X.A (eval (.Lambda ps x cs pos) X.env) Q E s := by
  obtain ⟨tb, hP, ht, ha⟩ := hT.ok _ hm
  have hPg : s.heap.get? P = some { cls := .none, data := .fields tb } := I.hok P _ hP
  refine PySem.W.kla_eval hdef ?_
  cases hc : codeAmong pos tb.toList with
  | some cv =>
    obtain ⟨c', rfl, hco⟩ := ha pos cv hc
    refine PySem.W.kla_makeFunctionHit (mg := X.mg) (c := c) (P := P) (ps := tb) (closure_ok hfree) I.ok.glob (I.mod.glob.keeps I.bk) hcode (TB.code.keeps I.bk) hPg ht hc (TB.bm.keeps I.bk) fun ctv h' tk hx hsz => ?_
    exact h h'.objs.size c' _ ctv H _ (I.kept (t' := tk) fun b o e => Heap.get?_push_of_some _ (hx b o e)) (ExtN.refl H) hT (fun _ z => z) (Heap.get?_push_size _ rfl) (I.hok.fresh hsz) (inv_nofr I hsz) hco
  | none =>
    refine PySem.W.kla_makeFunction (mg := X.mg) (c := c) (P := P) (ps := tb) (closure_ok hfree) I.ok.glob (I.mod.glob.keeps I.bk) hcode (TB.code.keeps I.bk) hPg ht hc TB.gP (TB.bm.keeps I.bk) fun c' ctv h' tk hx hge hlt hrec htb => ?_
    obtain ⟨c2, oc, vs, t, e2, hoc, hd, hv⟩ := hrec
    cases e2
    have hsz : s.heap.objs.size ≤ h'.objs.size := Nat.le_trans hge (Nat.le_of_lt hlt)
    have nC : H c' = none := I.hok.fresh hge
    have nP : P ≠ c' := ne_of_none hP nC
    have I1 := inv_table (t' := tk) (more := #[rawInt pos.line, rawInt pos.col, .ref c']) (h' := h'.push (lamO X ps x cs ((X.mg "__name__").getD .none) c' ctv)) I hP
      (fun b o hb e => Heap.get?_push_of_some _ (hx b o hb e)) (Heap.get?_push_of_some _ htb) hge ⟨oc, vs, t, Heap.get?_push_of_some _ hoc, hd, hv⟩
    have hE : ExtN H (upd (upd H P (.tbl (tb ++ #[rawInt pos.line, rawInt pos.col, .ref c']))) c' (CodeO c' (lamQ X))) := fun b o e n => by
      rw [upd_ne (ne_of_none e nC), upd_ne (fun z => n tb (by rw [z, hP] at e; exact (Option.some.inj e).symm))]
      exact e
    refine h h'.objs.size c' _ ctv _ _ I1 hE ⟨fun p hp => ?_⟩ (fun b hb => ?_) (Heap.get?_push_size _ rfl) ?_ (inv_nofr I hsz) upd_same
    · by_cases hb : p.1 = P
      · rw [hu p hp hb, hb]
        refine ⟨_, by rw [upd_ne nP, upd_same], by rw [snoc_toList]; exact PySem.TriplesOk_snoc _ _ _ _ ht, fun p' cv hcv => ?_⟩
        rw [snoc_toList] at hcv
        rcases among_app _ ht hcv with z | z
        · obtain ⟨c0, e1, e2⟩ := ha p' cv z
          exact ⟨c0, e1, hE _ _ e2 codeO_ne⟩
        · exact ⟨c', z, upd_same⟩
      · obtain ⟨tb2, a1, a2, a3⟩ := hT.ok p hp
        refine ⟨tb2, by rw [upd_ne (ne_of_none a1 nC), upd_ne hb]; exact a1, a2, fun p' cv hcv => ?_⟩
        obtain ⟨c0, e1, e2⟩ := a3 p' cv hcv
        exact ⟨c0, e1, hE _ _ e2 codeO_ne⟩
    · by_cases h1 : b = c'
      · rw [h1, upd_same]; exact fun z => nomatch z
      · rw [upd_ne h1]
        by_cases h2 : b = P
        · rw [h2, upd_same]; exact fun z => nomatch z
        · rw [upd_ne h2]; exact hb
    · rw [upd_ne (Nat.ne_of_gt hlt), upd_ne (Nat.ne_of_gt (Nat.lt_of_lt_of_le (Heap.lt_size hPg) hsz))]
      exact I.hok.fresh hsz
/-- the lambda's body begins -/
theorem lamN_start {A : Around} {outer : List Env} {E : XK} {cs : Scope} {f c' : Addr} {h₁ : Heap} {tk : Nat} (I : Inv X pins σ H s) (L : LamS X.env.scope cs) (e0 : Env0 X.prog X.w X.K X.mg X.base A outer s1 HZ) (hd : A.handled = none)
    (un : Un (frs X.stack) [] H HZ s.heap s1.heap) (hns : h₁.Ns s1.heap.objs.size fun y => ([] : List (Str × Value)).reverse.lookup y) (kp : ∀ b o, s1.heap.get? b = some o → h₁.get? b = some o) : Inv (lamN X A outer s1 HZ E cs f c') [] σ HZ { s1 with heap := h₁, toks := tk } := by
  have J := lam_start2 (E := E) (f := f) (c' := c') (tk := tk) I L e0 hd un hns kp
  exact J.wish _
end
end TI

set_option Elab.async false
set_option autoImplicit false
set_option maxRecDepth 100000
set_option maxHeartbeats 4000000
set_option linter.all false
/-! TI30: walks and targets while an exception is handled. -/
namespace TI
open PySem PySem.Spec PyProof.Rows L2 HotX
section
variable {prog : Program} {w : World} {A : Around} {E : Value → Shared → Prop} {s : Shared} {q l x1 : Addr} {i : Nat} {its : Array Value} {Q : Option Value → Shared → Prop}
/-- a list's walk ends -/
theorem list_end_hot (hot : HotAt A x1 s.heap) (hit : s.heap.IsListIter q l i) (hl : s.heap.IsList l its) (hx : its[i]? = none) (hQ : ∀ h', (∀ b o, b ≠ q → s.heap.get? b = some o → h'.get? b = some o) → Q none { s with heap := h' }) :
    wpAny (model prog w) A (pyNext (.ref q)) Q E s := by
  obtain ⟨o, ho, hc, hd⟩ := id hit
  obtain ⟨ol, hol, _, nl, hdl⟩ := hl
  obtain ⟨hh, o1, vs1, h1, d1, c1⟩ := hot
  have ne : q ≠ x1 := fun z => by
    subst z
    rw [ho] at h1
    cases h1
    rw [hd] at d1
    cases d1
    simp at c1
  unfold pyNext
  refine wpAny_bind (wpAny_attempt (wpAny_callSpecial?_slot (name := Str.ofString "__next__") hit.typeIs slot_listiter_next (wpAny_call_entry slot_listiter_next hit.typeIs entry_listiter_next ?_ (args_listiter_next _))))
  show wpAny _ _ (field (.ref q) 0 >>= _) _ _ s
  refine wpAny_bind (wpAny_field ho hd (x := Value.ref l) rfl ?_)
  show wpAny _ _ (if (Value.ref l == Value.none) = true then _ else _) _ _ _
  rw [if_neg (fun z : (Value.ref l == Value.none) = true => Bool.false_ne_true z)]
  show wpAny _ _ (field (.ref q) 1 >>= _) _ _ s
  refine wpAny_bind (wpAny_field ho hd (x := Value.int i 0) rfl ?_)
  show wpAny _ _ (seqItems? (.ref l) >>= _) _ _ _
  refine wpAny_bind (wpAny_seqItems hol hdl ?_)
  simp only [Int.toNat_natCast, hx]
  refine wpAny_bind (wpAny_rule (wpAny_bind (wpAny_setField ho hd (by simp) ?_)))
  have k1 := (Heap.get?_update_other (h := s.heap) (Obj.mapFields (·.setIfInBounds 0 Value.none)) ne).trans h1
  show wpAny _ _ (newExc (.type "StopIteration") [] >>= _) _ _ (Shared.mk _ _ _ _ _)
  refine wpAny_bind ?_
  simp only [newExc, newTuple]
  refine wpAny_bind (wpAny_newObj_type ?_ (by size_fits))
  refine wpAny_bind (m := firstArgMember _ _) (wpAny_of_eq (a := Value.none) (by rfl) ?_)
  refine wpAny_newObj_type ?_ (by size_fits)
  refine raiseNew_hot ⟨hh, o1, vs1, Heap.get?_push_of_some _ (Heap.get?_push_of_some _ k1), d1, c1⟩ (Nat.ne_of_lt (Heap.lt_size (Heap.get?_push_of_some _ k1))) (Heap.get?_push_size _ rfl) rfl (by simp; omega) ?_
  refine wpAny_bind (wpAny_isInstance (T := "StopIteration") (b := true) ⟨_, Heap.get?_update_self _ (Heap.get?_push_size _ rfl) rfl, rfl⟩ isSubtype_stop (wpAny_pure (hQ _ fun b o hb e => ?_)))
  have k2 := (Heap.get?_update_other (h := s.heap) (Obj.mapFields (·.setIfInBounds 0 Value.none)) (Ne.symm hb)).trans e
  rw [Heap.get?_update_other _ _ (Nat.ne_of_gt (Heap.lt_size (Heap.get?_push_of_some _ k2)))]
  exact Heap.get?_push_of_some _ (Heap.get?_push_of_some _ k2)
/-- a tuple's walk ends -/
theorem tup_end_hot (hot : HotAt A x1 s.heap) (hit : s.heap.IsTupleIter q l i) (hl : s.heap.IsTuple l its) (hx : its[i]? = none) (hQ : ∀ h', (∀ b o, b ≠ q → s.heap.get? b = some o → h'.get? b = some o) → Q none { s with heap := h' }) :
    wpAny (model prog w) A (pyNext (.ref q)) Q E s := by
  obtain ⟨o, ho, hc, hd⟩ := id hit
  obtain ⟨ol, hol, _, nl, hdl⟩ := hl
  obtain ⟨hh, o1, vs1, h1, d1, c1⟩ := hot
  have ne : q ≠ x1 := fun z => by
    subst z
    rw [ho] at h1
    cases h1
    rw [hd] at d1
    cases d1
    simp at c1
  unfold pyNext
  refine wpAny_bind (wpAny_attempt (wpAny_callSpecial?_slot (name := Str.ofString "__next__") hit.typeIs F.slot_tuple_iterator_next (wpAny_call_entry F.slot_tuple_iterator_next hit.typeIs F.entry_tuple_iterator_next ?_ (F.args_tuple_iterator_next_1 _))))
  show wpAny _ _ (field (.ref q) 0 >>= _) _ _ s
  refine wpAny_bind (wpAny_field ho hd (x := Value.ref l) rfl ?_)
  show wpAny _ _ (if (Value.ref l == Value.none) = true then _ else _) _ _ _
  rw [if_neg (fun z : (Value.ref l == Value.none) = true => Bool.false_ne_true z)]
  show wpAny _ _ (field (.ref q) 1 >>= _) _ _ s
  refine wpAny_bind (wpAny_field ho hd (x := Value.int i 0) rfl ?_)
  show wpAny _ _ (seqItems? (.ref l) >>= _) _ _ _
  refine wpAny_bind (wpAny_seqItems hol hdl ?_)
  simp only [Int.toNat_natCast, hx]
  refine wpAny_bind (wpAny_rule (wpAny_bind (wpAny_setField ho hd (by simp) ?_)))
  have k1 := (Heap.get?_update_other (h := s.heap) (Obj.mapFields (·.setIfInBounds 0 Value.none)) ne).trans h1
  show wpAny _ _ (newExc (.type "StopIteration") [] >>= _) _ _ (Shared.mk _ _ _ _ _)
  refine wpAny_bind ?_
  simp only [newExc, newTuple]
  refine wpAny_bind (wpAny_newObj_type ?_ (by size_fits))
  refine wpAny_bind (m := firstArgMember _ _) (wpAny_of_eq (a := Value.none) (by rfl) ?_)
  refine wpAny_newObj_type ?_ (by size_fits)
  refine raiseNew_hot ⟨hh, o1, vs1, Heap.get?_push_of_some _ (Heap.get?_push_of_some _ k1), d1, c1⟩ (Nat.ne_of_lt (Heap.lt_size (Heap.get?_push_of_some _ k1))) (Heap.get?_push_size _ rfl) rfl (by simp; omega) ?_
  refine wpAny_bind (wpAny_isInstance (T := "StopIteration") (b := true) ⟨_, Heap.get?_update_self _ (Heap.get?_push_size _ rfl) rfl, rfl⟩ isSubtype_stop (wpAny_pure (hQ _ fun b o hb e => ?_)))
  have k2 := (Heap.get?_update_other (h := s.heap) (Obj.mapFields (·.setIfInBounds 0 Value.none)) (Ne.symm hb)).trans e
  rw [Heap.get?_update_other _ _ (Nat.ne_of_gt (Heap.lt_size (Heap.get?_push_of_some _ k2)))]
  exact Heap.get?_push_of_some _ (Heap.get?_push_of_some _ k2)
/-- a tuple is taken apart -/
theorem tup_asg_hot {env : Env} {es : List Expr} {k : Nat} {pos : Pos} {R : Unit → Shared → Prop} (hot : HotAt A x1 s.heap) (hl : s.heap.IsTuple l its) (hn : (assignEach es env).length = its.size) (hst : (assignEach es env).findIdx? (·.1) = none)
    (h : ∀ h', (∀ b o, s.heap.get? b = some o → h'.get? b = some o) → wpAny (model prog w) A (assignInOrder ((assignEach es env).map (·.2)) its.toList) R E { s with heap := h' }) : wpAny (model prog w) A (assign (.Tuple es k pos) env (.ref l)) R E s := by
  have hlt : l < s.heap.objs.size := by
    obtain ⟨o, ho, _⟩ := hl
    exact Heap.lt_size ho
  have hne : l ≠ s.heap.objs.size := Nat.ne_of_lt hlt
  rw [arm_assign_Tuple]
  refine wpAny_bind (wpAny_standAt ?_)
  unfold unpack
  rw [hn, hst]
  refine wpAny_bind (wpAny_holding ?_)
  unfold unpackItems
  refine wpAny_bind ?_
  unfold notIterableAtAll
  refine wpAny_bind (wpAny_specialOf hl.typeIs F.slot_tuple_iter.lookup ?_)
  refine wpAny_pure ?_
  simp only [Bool.false_eq_true, if_false]
  refine wpAny_bind (wpAny_holding (wpAny_pyIter_tuple hl ?_))
  refine wpAny_bind (wpAny_holding (wpAny_draw_tuple hne its.size 0 _ _ ⟨_, Heap.get?_push_size _ rfl, rfl, rfl⟩ (hl.push _) (by omega) fun h₁ hit₁ hs₁ => ?_))
  have hall : (its.toList.drop 0).take its.size = its.toList := by
    rw [List.drop_zero, ← Array.length_toList]
    exact List.take_length
  rw [hall, if_neg (by simp)]
  have hl1 : h₁.IsTuple l its := (hl.push _).extBut hs₁.extBut hne
  have hot1 : HotAt A x1 h₁ := by
    obtain ⟨hh, o1, vs1, h1, d1, c1⟩ := hot
    exact ⟨hh, o1, vs1, hs₁.extBut _ _ (Nat.ne_of_lt (Heap.lt_size h1)) (Heap.get?_push_of_some _ h1), d1, c1⟩
  refine wpAny_bind (wpAny_holding (tup_end_hot hot1 hit₁ hl1 (by simp) fun h₂ he₂ => ?_))
  simp only [Option.isSome_none, Bool.false_eq_true, if_false]
  refine wpAny_pure (h h₂ fun b o e => ?_)
  have nb : b ≠ s.heap.objs.size := Nat.ne_of_lt (Heap.lt_size e)
  exact he₂ b o nb (hs₁.extBut b o nb (Heap.get?_push_of_some _ e))
end
end TI

set_option Elab.async false
set_option autoImplicit false
set_option maxRecDepth 100000
set_option maxHeartbeats 4000000
set_option linter.all false
/-! TI31: a comprehension over a list while an exception is handled. -/
namespace TI
open PySem PySem.Spec PyProof.Rows L2 HotX
/-- a target, the object p pinned -/
def PGp (X : Cx) (p : Addr × Obj) (tg : Expr) (g : TG) : Prop := ∀ (pins : List (Addr × Obj)) (s : Shared) (σ : L2.St) (H : Hp) (v : V) (u : Value) (Q : L2.St → Hp → Prop), p ∈ X.pn ++ pins → Inv X pins σ H s → RelV v u → g v σ H Q →
  wpAny (model X.prog X.w) X.A (assign tg X.env u) (fun _ s' => ∃ σ' H', Inv X pins σ' H' s' ∧ Q σ' H') X.xe s
theorem hot_at {X : Cx} {pins : List (Addr × Obj)} {σ : L2.St} {H : Hp} {s : Shared} {p : Addr × Obj} (hot : L2H.Hot1 X.A p) (hp : p ∈ X.pn ++ pins) (I : Inv X pins σ H s) : HotAt X.A p.1 s.heap := by
  obtain ⟨hh, vs, e1, e2⟩ := hot
  exact ⟨hh, p.2, vs, (I.pin p hp).1, e1, e2⟩
theorem pg_tupH {X : Cx} {p : Addr × Obj} {es : List Expr} {k n : Nat} {t : TGs} {pos : Pos} (hot : L2H.Hot1 X.A p) (h : PGs X es t) (hn : (assignEach es X.env).length = n) (hst : (assignEach es X.env).findIdx? (·.1) = none) : PGp X p (.Tuple es k pos) (gTup X.K n t) := by
  intro pins s σ H v u Q hp I r hw
  obtain ⟨a, xs, rfl, hq, hl, hw⟩ := hw
  cases r
  obtain ⟨its, rv, ht, hz⟩ := I.tuple hq
  refine tup_asg_hot (hot_at hot hp I) ht (by rw [hn, ← hl, rv.length]; simp) hst fun h' hx => ?_
  exact h.run pins _ σ H xs _ Q (I.kept (t' := s.toks) hx) (by simpa using rv) hw
/-- over the list of the i-th name -/
def tLcH (K : PySem.W.Frag) (i : Nat) (g : TG) (tt : TT) (te : TE) (vs : List Nat) : TE := fun σ H Q => ∃ (a : Addr) (xs : List V), σ[i]? = some (some (.ref a)) ∧ SqL K H a xs ∧ ∀ D, H D = none → ∃ Pv : Nat → Hp → Prop, Pv 0 (upd H D (.lst [])) ∧
  (∀ i H', Pv i H' → SqL K H' a xs) ∧ (∀ i x H', xs[i]? = some x → Pv i H' → g x (wipe σ vs) H' fun σ2 H2 => wipe σ2 vs = wipe σ vs ∧ tt σ2 H2 fun b H3 => if b = true then te σ2 H3 fun y H4 => ∃ acc, H4 D = some (.lst acc) ∧ acc.length < sizeLine ∧ Pv (i + 1) (upd H4 D (.lst (acc ++ [y]))) else Pv (i + 1) H3) ∧
  ∀ H', Pv xs.length H' → Q (.ref D) H'
section
variable {X : Cx}
theorem pe_lcH {p : Addr × Obj} {i : Nat} {y : Str} {py : Pos} {elt tg : Expr} {ifs : List Expr} {cs : Scope} {own : List (Str × Nat)} {pos : Pos} {g : TG} {tt : TT} {te : TE} (hot : L2H.Hot1 X.A p) (hp : p ∈ X.pn) (hN : X.N.Nodup) (hy : X.N[i]? = some y) (vy : Vis X.env.scope y) (y1 : (y == ("__debug__" : Str)) = false) (y2 : (y == ("__classdict__" : Str)) = false)
    (ok : BlkOk X.N X.env.scope cs own) (hg : ∀ (s : Shared) (H : Hp) (C : Addr) (cl : List (Str × Addr)) (fp : List Addr), PGp (X.blk s H cs (compEnvC cs cl C X.env) fp) p tg g)
    (ht : ∀ (s : Shared) (H : Hp) (C : Addr) (cl : List (Str × Addr)) (fp : List Addr), PTs (X.blk s H cs (compEnvC cs cl C X.env) fp) ifs tt) (he : ∀ (s : Shared) (H : Hp) (C : Addr) (cl : List (Str × Addr)) (fp : List Addr), PE (X.blk s H cs (compEnvC cs cl C X.env) fp) elt te) :
    PE X (.ListComp elt [⟨tg, .Name y py, ifs, 0⟩] cs pos) (tLcH X.K i g tt te (own.map (·.2))) := by
  refine ⟨fun pins s σ H Q I h => ?_⟩
  obtain ⟨a, xs, hσ, hq, h⟩ := h
  rw [eval_ListComp]
  have hfree : ∀ z ∈ cs.names, z.2 = .free → ∃ c, X.env.cells.lookup z.1 = some c := fun z hz e => (ok.free z hz e).elim (fun k => I.ok.has _ (.inl k)) fun k => I.ok.has _ (.inr k)
  refine wpAny_comprehension_free (use := none) rfl (fun _ => rfl) (closure_ok hfree) ok.kind (fun z hz e => by rw [ok.uniq z hz, e]) (thn ((pe_var (pos := py) hy vy y1 y2).run pins s σ H (fun v H1 => v = .ref a ∧ H1 = H) I ⟨.ref a, hσ, rfl, rfl⟩) fun xv s1 hx => ?_)
  obtain ⟨v0, H1, I1, r1, e1, e2⟩ := hx
  subst e1 e2
  cases r1
  obtain ⟨its0, rv0, isl0, hz0⟩ := I1.list hq
  refine wpAny_pyIter_list isl0.isList ?_
  generalize hsw : ({ s1 with heap := s1.heap.push { cls := .type "list_iterator", data := .fields #[.ref a, .int 0 0] } } : Shared) = s2
  have I2 : Inv X pins σ H1 s2 := by rw [← hsw]; exact I1.kept (t' := s1.toks) fun b o e => Heap.get?_push_of_some _ e
  have f2 : FpOk X pins H1 s1.heap.objs.size := I1.fpOk (Nat.le_refl _) (I1.hok.fresh (Nat.le_refl _))
  have st2 : s2.heap.IsListIter s1.heap.objs.size a 0 := by rw [← hsw]; exact ⟨_, Heap.get?_push_size _ rfl, rfl, rfl⟩
  clear hsw
  revert f2 st2
  generalize s1.heap.objs.size = it
  intro f2 st2
  refine wpAny_newObj_type (newEnv_comp ?_) (by show 0 ≤ sizeLine; decide)
  generalize hD : s2.heap.objs.size = D
  have hDn : H1 D = none := I2.hok.fresh (Nat.le_of_eq hD)
  obtain ⟨Pv, p0, pS, pT, pQ⟩ := h D hDn
  generalize hs3 : ({ s2 with heap := s2.heap.push { cls := .type "list", data := .seq ([] : List Value).toArray } } : Shared) = s3
  have I3 : Inv X pins σ (upd H1 D (.lst [])) s3 := by
    rw [← hs3]
    refine I2.laid (t' := s2.toks) (fun b o e => Heap.get?_push_of_some _ e) (Nat.le_of_eq hD) ⟨Nat.zero_le _, [], 0, .nil, ?_⟩
    rw [← hD]
    exact Heap.get?_push_size _ rfl
  have h3 : s3.heap = s2.heap.push { cls := .type "list", data := .seq ([] : List Value).toArray } := by rw [← hs3]
  have itlt : it < s2.heap.objs.size := by
    obtain ⟨o, e, _⟩ := st2
    exact Heap.lt_size e
  have f3 : FpOk X pins (upd H1 D (.lst [])) it := ⟨by rw [upd_ne (by rw [← hD]; exact Nat.ne_of_lt itlt)]; exact f2.1, f2.2⟩
  have st3 : s3.heap.IsListIter it a 0 := st2.at fun o e => by rw [h3]; exact Heap.get?_push_of_some _ e
  have ilt3 : it < s3.heap.objs.size := by rw [h3, Heap.size_push]; exact Nat.lt_succ_of_lt itlt
  have I4 := block_start (fp := [it]) I3 ok hN fun b hb => by
    have e : b = it := by simpa using hb
    subst e
    exact ⟨f3, ilt3⟩
  have pg := hg s3 (upd H1 D (.lst [])) s3.heap.objs.size (cellsFrom (s3.heap.objs.size + 1) cs.names (cloFrom X.env.cells cs.names [])) [it]
  have pt := ht s3 (upd H1 D (.lst [])) s3.heap.objs.size (cellsFrom (s3.heap.objs.size + 1) cs.names (cloFrom X.env.cells cs.names [])) [it]
  have pe := he s3 (upd H1 D (.lst [])) s3.heap.objs.size (cellsFrom (s3.heap.objs.size + 1) cs.names (cloFrom X.env.cells cs.names [])) [it]
  show codeAny _ _ (.compStart (.ListComp elt [⟨tg, .Name y py, ifs, 0⟩] cs pos) 0 (.ref it) (.ref D) (compEnvC cs (cellsFrom (s3.heap.objs.size + 1) cs.names (cloFrom X.env.cells cs.names [])) s3.heap.objs.size X.env)) (compPost (model X.prog X.w) X.A X.xe none _ (.ref D) s3.heap.objs.size) { s3 with heap := pushCells (s3.heap.push { cls := .type "dict", data := .dict #[] }) cs.names }
  have pin3 := I3.pin p (List.mem_append_left _ hp)
  generalize hce : compEnvC cs (cellsFrom (s3.heap.objs.size + 1) cs.names (cloFrom X.env.cells cs.names [])) s3.heap.objs.size X.env = ce at I4 pg pt pe ⊢
  have cL : ce.locals = s3.heap.objs.size := by subst hce; rfl
  generalize hH3 : upd H1 D (.lst []) = H3 at I3 I4 pg pt pe p0 f3 pin3
  generalize hs4 : ({ s3 with heap := pushCells (s3.heap.push { cls := .type "dict", data := .dict #[] }) cs.names } : Shared) = s4 at I4 ⊢
  have kp4 : ∀ b o, s3.heap.get? b = some o → s4.heap.get? b = some o := fun b o e => by rw [← hs4]; exact pushCells_keeps _ _ _ _ (Heap.get?_push_of_some _ e)
  have st4 : s4.heap.IsListIter it a 0 := st3.at fun o e => kp4 _ _ e
  -- the handled exception stays pinned
  have I5 : Inv (X.blk s3 H3 cs ce [it]) [p] (wipe σ (own.map (·.2))) H3 s4 := by
    refine ⟨I4.ok, I4.os, I4.bare, I4.base, I4.loc, I4.cell, I4.free, I4.freeC, fun q hq => ?_, I4.hok, I4.len⟩
    have e : q = p := by
      have hq' : q ∈ ([] : List (Addr × Obj)) ++ [p] := hq
      simpa using hq'
    subst e
    refine ⟨kp4 _ _ pin3.1, pin3.2.1, ?_, fun z => (List.mem_cons.mp (I3.stkSub q.1 z)).elim pin3.2.2.1 pin3.2.2.2.1, pin3.2.2.2.2⟩
    show q.1 ≠ ce.locals
    rw [cL]
    exact Nat.ne_of_lt (Heap.lt_size pin3.1)
  have hotB : L2H.Hot1 (X.blk s3 H3 cs ce [it]).A p := hot
  have memP : ∀ (l : List (Addr × Obj)), p ∈ (X.blk s3 H3 cs ce [it]).pn ++ ([p] ++ l) := fun l => List.mem_append_right _ (List.mem_append_left _ (List.mem_singleton.mpr rfl))
  have memQ : p ∈ (X.blk s3 H3 cs ce [it]).pn ++ [p] := List.mem_append_right _ (List.mem_singleton.mpr rfl)
  have stat : ∀ {σ' : L2.St} {H' : Hp} {s' : Shared}, Inv (X.blk s3 H3 cs ce [it]) [p] σ' H' s' → H' it = none → ∀ b ∈ [it], FpOk (X.blk s3 H3 cs ce [it]) [p] H' b := fun {σ' H' s'} I' hn b hb => by
    have e : b = it := by simpa using hb
    subst e
    refine ⟨hn, (I'.ok.exf b hb).1, I'.ok.exfs b hb, .inl hb, fun x c e => (I'.ok.exf b hb).2 x c e, fun q hq z => ?_⟩
    have e : q = p := by
      have hq' : q ∈ ([] : List (Addr × Obj)) ++ [p] := hq
      simpa using hq'
    subst e
    exact f3.2.2.2.2.2 q (List.mem_append_left _ hp) z
  have loop : codeAny (model X.prog X.w) X.A (.compLoop (.ListComp elt [⟨tg, .Name y py, ifs, 0⟩] cs pos) 0 (.ref it) (.ref D) ce) (compPost (model X.prog X.w) X.A X.xe none (fun v s' => ∃ v' H', Inv X pins σ H' s' ∧ RelV v' v ∧ Q v' H') (.ref D) s3.heap.objs.size) s4 := by
    refine compLoop_any (fun n s' => ∃ j H', Inv (X.blk s3 H3 cs ce [it]) [p] (wipe σ (own.map (·.2))) H' s' ∧ s'.heap.IsListIter it a j ∧ H' it = none ∧ n = xs.length - j ∧ j ≤ xs.length ∧ Pv j H') ?_ xs.length ⟨0, H3, I5, st4, f3.1, rfl, Nat.zero_le _, p0⟩
    rintro n s5 ⟨j, H5, J5, st5, n5, rfl, hj, w5⟩
    have fo := stat J5 n5 it (List.mem_singleton.mpr rfl)
    obtain ⟨f0, f1, f2', f3', f4, f5⟩ := fo
    obtain ⟨its, rv, isl, hz⟩ := J5.list (pS j H5 w5)
    have hlen := rv.length
    by_cases hlt : j < xs.length
    · obtain ⟨u, hu, ru⟩ := rv.get (x := xs[j]) (i := j) (by simp [hlt])
      refine wpAny_pyNext_list_item st5 isl.isList (x := u) (by simpa using hu) fun h6 st6 sb => ?_
      have I6 : Inv (X.blk s3 H3 cs ce [it]) [p] (wipe σ (own.map (·.2))) H5 { s5 with heap := h6 } := J5.turned (t' := s5.toks) (fun b o hb e => (sb.2 b hb).trans e) f0 f1 f3' f4 f5
      obtain ⟨oi, ei, ci, di⟩ := id st6
      refine go_of (s := { s5 with heap := h6 }) ei ci di (by decide) ?_
      have I7 := I6.pinned (fp := [it]) (stat I6 n5) fun b hb => by
        have e : b = it := by simpa using hb
        subst e
        exact ⟨oi, ei, fun v z => by rw [di] at z; cases z⟩
      refine thnF (pg _ _ _ H5 (xs[j]) u _ (memP _) I7 ru (pT j xs[j] H5 (by simp [hlt]) w5)) fun _ s8 ⟨σ8, H8, I8, hw8, q8⟩ => ?_
      refine thnF (pt.run _ s8 σ8 H8 _ I8 q8) fun b s9 ⟨H9, I9, q9⟩ => ?_
      have fin : ∀ {s' : Shared} {H' : Hp}, Inv (X.blk s3 H3 cs ce [it]) ([p] ++ pinsAt [it] h6) σ8 H' s' → Pv (j + 1) H' → ∃ m, m < xs.length - j ∧ ∃ j' H', Inv (X.blk s3 H3 cs ce [it]) [p] (wipe σ (own.map (·.2))) H' s' ∧ s'.heap.IsListIter it a j' ∧ H' it = none ∧ m = xs.length - j' ∧ j' ≤ xs.length ∧ Pv j' H' := fun {s' H'} I' nx => by
        obtain ⟨k1, k2, _⟩ := I'.pin (it, oi) (List.mem_append_right _ (List.mem_append_right _ (mem_pinsAt (List.mem_singleton.mpr rfl) ei)))
        have hl : (wipe σ (own.map (·.2))).length = σ8.length := by rw [← hw8, wipe_length]
        refine ⟨xs.length - (j + 1), by omega, j + 1, H', (I'.unpinned (pins := [p])).weak hl (fun k v e => ?_), st6.at fun o e => by rw [ei] at e; cases e; exact k1, k2, rfl, hlt, nx⟩
        rw [← hw8] at e
        exact (wipe_some e).1
      cases b with
      | false =>
        simp only [Bool.false_eq_true, if_false] at q9 ⊢
        exact fin I9 q9
      | true =>
        simp only [if_true] at q9 ⊢
        refine thnF (pe.run _ s9 σ8 H9 _ I9 q9) fun z s10 ⟨yv, H10, I10, r10, acc, hD10, hz10, nx⟩ => ?_
        exact app_ok (X := X.blk s3 H3 cs ce [it]) I10 hD10 hz10 r10 fun s11 I11 => fin I11 nx
    · have ej : j = xs.length := by omega
      refine list_end_hot (hot_at (X := X.blk s3 H3 cs ce [it]) hotB memQ J5) st5 isl.isList (by simp; omega) fun h6 eb => ?_
      have I6 : Inv (X.blk s3 H3 cs ce [it]) [p] (wipe σ (own.map (·.2))) H5 { s5 with heap := h6 } := J5.turned (t' := s5.toks) (fun b o hb e => eb b o hb e) f0 f1 f3' f4 f5
      have I7 : Inv X pins σ H5 { s5 with heap := h6 } := I3.call' (ch := [it]) I6.os I6.base I6.hok I6.bare fun b hb => by
        have e : b = it := by simpa using hb
        subst e
        exact ⟨f3.2.2.2.1, f3.2.1, f3.2.2.2.2.1, f3.2.2.2.2.2⟩
      have nC : H5 s3.heap.objs.size = none := by
        have z : H5 ce.locals = none := I6.free
        rw [cL] at z
        exact z
      obtain ⟨m, hn, _⟩ := I6.loc
      have hn : h6.Ns ce.locals m := hn
      rw [cL] at hn
      refine ⟨m, hn, fun h'' sb => ?_⟩
      obtain ⟨g0, g1, g2, g3, g4, g5⟩ := I3.fpOk (H' := H5) (Nat.le_refl s3.heap.objs.size) nC
      rw [ej] at w5
      exact ⟨.ref D, H5, I7.turned (t' := s5.toks) (fun b o hb e => (sb.2 b hb).trans e) g0 g1 g3 g4 g5, rfl, pQ H5 w5⟩
  exact codeAny_compStart_list loop (wpAny_pyIter_listiter st4 loop)
end
end TI

set_option Elab.async false
set_option autoImplicit false
set_option maxRecDepth 100000
set_option maxHeartbeats 8000000
set_option linter.all false
/-! TI32: _law_told_by: what a call comes to, told. -/
namespace TI
open PySem PySem.Spec PyProof.Rows L2 LamX HotX
section
variable {X : Cx} {pins : List (Addr × Obj)} {σ : L2.St} {H HZ : Hp} {s s1 : Shared}
/-- the lambda is called in the def that got it -/
theorem actN {CXg : CXT} {Eg : XK} {Ng : List Str} {qg : Str} {sg : Scope} {g f c' : Addr} {cdg pm ctv : Value} {ps : Arguments} {x : Expr} {cs : Scope} {k i : Nat} {a : Str} {pn : List (Addr × Obj)} {xe : Value → Shared → Prop} {W : WX} {E : XK} {tb : TE} {p1 p2 : Pos}
    (I : Inv X pins σ H s) (L : LamS X.env.scope cs) (hf : s.heap.get? f = some (lamO X ps x cs pm c' ctv)) (hfn : H f = none) (hfr : f ∉ frs X.stack) (hbind : bindArgs (PySem.W.kla_fn "<lambda>" (lamQ X) ps x cs (cloFrom X.env.cells cs.names []) pm (.ref c') ctv) ⟨[], []⟩ = Pure.pure [])
    (tk : L2N.Takes ((cxOf CXg X.prog X.w X.K X.mg X.base Ng qg sg g cdg X.A X.stack s H Eg).tr pn xe) W) (hW : ∀ cl d σ' H', E cl d H' → W cl d σ' H') (hr : Room (k + 1) (X.A.deeper (envOfC qg sg s.heap.objs.size g cdg)))
    (hbody : ∀ (A : Around) (outer : List Env) (s : Shared) (H : Hp), Room k (A.deeper (lamEnv X cs s.heap.objs.size f c')) → PE (lamN X A outer s H E cs f c') x tb) (hN : Ng[i]? = some a) (hv : Vis sg a) (hd : (a == ("__debug__" : Str)) = false) (hcd : (a == ("__classdict__" : Str)) = false) :
    PE ((cxOf CXg X.prog X.w X.K X.mg X.base Ng qg sg g cdg X.A X.stack s H Eg).tr pn xe) (.Call (.Name a p1) [] [] p2) (fun σZ HZ Q => σZ[i]? = some (some (.ref f)) ∧ HZ c' = some (CodeO c' (lamQ X)) ∧ tb σ HZ Q) := by
  refine ⟨fun pinsZ sZ σZ HZ Q IZ h => ?_⟩
  obtain ⟨hs, hc, ht⟩ := h
  refine wpAny_Call_Name_kw (thn ((pe_var (pos := p1) (i := i) hN hv hd hcd).run pinsZ sZ σZ HZ (fun v H1 => v = .ref f ∧ H1 = HZ) IZ ⟨.ref f, hs, rfl, rfl⟩) fun u s1 hu => ?_)
  obtain ⟨v, H1, I1, r1, ev, eH⟩ := hu
  subst ev
  rw [eH] at I1
  cases r1
  have of1 : s1.heap.get? f = some (lamO X ps x cs pm c' ctv) := I1.base.keep f _ hf hfn hfr (fun z => nomatch (show f ∈ ([] : List Addr) from z))
  refine PySem.W.callWith_F0 ⟨_, _, _, _, of1⟩ ?_
  obtain ⟨⟨oc, vs, t, hoc, hdc, hvc⟩, _, _⟩ := I1.hok c' _ hc
  refine wpAny_call (codeAny_mono (?_ : codeAny (model X.prog X.w) (X.A.deeper (envOfC qg sg s.heap.objs.size g cdg)) (.call (.ref f) ⟨[], []⟩) (CR (L2N.CX X.prog X.w) (envOfC qg sg s.heap.objs.size g cdg :: X.stack) X.prog X.w HZ s1 Q E) s1) fun r s' hq => ?_)
  · refine PySem.W.kla_callFunE hr.depth of1 rfl L.co L.gen rfl ⟨c', oc, vs, t, rfl, hoc, hdc, hvc⟩ ?_
    rw [hbind]
    refine wpAny_pure (wpAny_newFunctionEnv (fun y hy => (L.own y hy).2) (fun y hy => absurd hy (by simp)) (fun h₁ hns hsb => ⟨I1.nolimit.fresh _ hsb, ?_⟩) L.kind)
    show codeAny _ _ (.expr x (lamEnv X cs s1.heap.objs.size f c')) _ _
    have kp : ∀ b o, s1.heap.get? b = some o → h₁.get? b = some o := fun b o e => hsb.extBut b o (Nat.ne_of_lt (Heap.lt_size e)) (Heap.get?_push_of_some _ e)
    have J := lamN_start (E := E) (f := f) (c' := c') (tk := s1.toks + ([] : List (Str × Value)).length) I L I1.env0 hr.hd I1.base hns kp
    refine PySem.W.kla_codeExpr (wpAny_mono ((hbody _ _ s1 HZ (hr.deeper _)).run [] _ _ HZ Q J ht) (fun v s' hq => ?_) fun e s' z => z)
    obtain ⟨w', H', J', rv, q⟩ := hq
    exact ⟨w', H', J'.os, J'.bare, J'.base, J'.hok, rv, q⟩
  · cases r with
    | error e => exact L2N.passes_call tk hW pinsZ σZ HZ s1 e s' I1 hq
    | ok fl =>
      cases fl with
      | ret u => exact I1.after hq
      | next => exact False.elim hq
      | brk => exact False.elim hq
      | cont => exact False.elim hq
end
/-! ### the suite -/
/-- what the written part says of an exception's class at C: R is Refused, B1 B2 B3 are asked for -/
structure XFacts (K : PySem.W.Frag) (C R B1 B2 B3 : Addr) (b1 b2 b3 : Bool) : Prop where
  ex : PySem.W.exmOne K (.ref C) (.ref R) = some true
  k1 : PySem.W.kitOne K (.ref C) (.ref B1) = some b1
  k2 : PySem.W.kitOne K (.ref C) (.ref B2) = some b2
  k3 : PySem.W.kitOne K (.ref C) (.ref B3) = some b3
  cl : (PySem.W.clsIn K C).isSome = true
  xf : XfC K C
  dc : PySem.W.findIn K (.ref C) "__class__" = some (some (.builtin "object.__class__"))
  sp : PySem.W.specialIn K (.builtin "object.__class__") "__get__" = some (some (.builtin "getset_descriptor.__get__"))
  tk : PySem.W.takesIn K (.builtin "object.__class__") = some true
  mr : PySem.W.mroIn K C (.type "object") = some true
  no : PySem.W.findIn K (.ref C) "what" = some none
def rIsD (K : PySem.W.Frag) (C a dx : Addr) : List V → Hp → VK → Prop := fun xs H Q => ∃ (B : Addr) (b : Bool) (fs : List (Str × V)), xs = [.ref a, .ref B] ∧ PySem.W.kitOne K (.ref C) (.ref B) = some b ∧ H dx = some (.xd fs) ∧ Q (.bl b) H
theorem call_isD {X : Cx} {a C dx R B1 B2 B3 : Addr} {b1 b2 b3 : Bool} {oe : Obj} {pn : List (Addr × Obj)} (F : XFacts X.K C R B1 B2 B3 b1 b2 b3) (hz : Zc (.ref C) (some dx) oe) (hf : ∃ vs, oe.data = .fields vs) : CallR (X.suite a ((a, oe) :: pn)) (.builtin "isinstance") (rIsD X.K C a dx) := by
  intro pins s σ H xs us Q I r h
  obtain ⟨B, b, fs, rfl, e, hx, q⟩ := h
  cases r with
  | cons rx rr =>
    cases rr with
    | cons rt rr =>
      cases rr
      cases rx
      cases rt
      obtain ⟨hget, _⟩ := I.pin (a, oe) (List.mem_append.mpr (.inl List.mem_cons_self))
      obtain ⟨vs, hv⟩ := hf
      have ho : ObjOk X.prog X.w H s.heap dx (.xd fs) := I.hok dx _ hx
      obtain ⟨mA, hns, _⟩ := ho
      obtain ⟨od, hod, _⟩ := lookIn_ns hns
      have J : PySem.W.InstAt s.heap a oe C (some od) := ⟨hget, hz.1, by unfold PySem.W.notCls; rw [hv] <;> rfl, by rw [hz.2]; exact hod⟩
      exact PySem.W.kia_one (PySem.W.kitx_exc F.cl F.xf.ga F.xf.gg F.xf.exC F.dc F.sp F.tk F.mr) I.kIn J e (fun z => nomatch z) fun tk => ⟨.bl b, H, I.kept (t' := tk) fun _ _ z => z, rfl, q⟩
/-- the text of the answer -/
def toldTxt (n1 n2 n3 : Str) (b1 b2 b3 : Bool) : List Str := (if b1 then [n1] else []) ++ (if b2 then [n2] else []) ++ (if b3 then [n3] else [])
/-- the def's names by slot -/
abbrev toldN : List Str := ["call", "e", "some", "word", "is_one"]
section
variable {X : Cx} {a C R B1 B2 B3 dx : Addr} {b1 b2 b3 : Bool} {n1 n2 n3 z : Str} {oe : Obj} {pn : List (Addr × Obj)} {cs : Scope} {q : Nat → Pos}
/-- what is asked of the def's frame -/
structure ToldX (X : Cx) (n1 n2 n3 : Str) (B1 B2 B3 : Addr) (cs : Scope) : Prop where
  N : X.N = toldN
  le : X.env.scope.names.lookup ("e" : Str) = some .local
  ls : X.env.scope.names.lookup ("some" : Str) = some .local
  gi : X.env.scope.names.lookup ("isinstance" : Str) = some .globalImplicit
  g1 : X.env.scope.names.lookup n1 = some .globalImplicit
  g2 : X.env.scope.names.lookup n2 = some .globalImplicit
  g3 : X.env.scope.names.lookup n3 = some .globalImplicit
  mi : X.mg "isinstance" = none
  m1 : X.mg n1 = some (.ref B1)
  m2 : X.mg n2 = some (.ref B2)
  m3 : X.mg n3 = some (.ref B3)
  d1 : (n1 == ("__debug__" : Str)) = false
  d2 : (n2 == ("__debug__" : Str)) = false
  d3 : (n3 == ("__debug__" : Str)) = false
  bk : blkC toldN X.env.scope cs [("word", 3), ("is_one", 4)] = true
  lw : locB cs "word" = true
  li : locB cs "is_one" = true
def tPair (K : PySem.W.Frag) (C a dx : Addr) (n : Str) (B : Addr) : TE := tTup (tCons (tC (.str n)) (tCons (tCB (rIsD K C a dx) (tCons (tVar 1) (tCons (tC (.ref B)) tNil))) tNil))
theorem pe_pair (T : ToldX X n1 n2 n3 B1 B2 B3 cs) (F : XFacts X.K C R B1 B2 B3 b1 b2 b3) (hz : Zc (.ref C) (some dx) oe) (hf : ∃ vs, oe.data = .fields vs) {n : Str} {B : Addr} (g : X.env.scope.names.lookup n = some .globalImplicit) (m : X.mg n = some (.ref B)) (d : (n == ("__debug__" : Str)) = false) (p1 p2 p3 p4 p5 p6 : Pos) :
    PE (X.suite a ((a, oe) :: pn)) (isPair n p1 p2 p3 p4 p5 p6) (tPair X.K C a dx n B) := by
  have e1 : PE (X.suite a ((a, oe) :: pn)) (.Name "e" p3) (tVar 1) := pe_var (by show X.N[1]? = _; rw [T.N]; rfl) (.inl T.le) rfl rfl
  have e2 : PE (X.suite a ((a, oe) :: pn)) (.Name n p4) (tC (.ref B)) := pe_glob (u := .ref B) g m rfl d
  exact pe_tup (pa_cons pe_str (pa_cons (pe_callB (call_isD F hz hf) T.gi T.mi PyProof.Rows.boot_isinstance (pa_cons e1 (pa_cons e2 pa_nil))) pa_nil))
theorem saidBy_snoc (l : List (Str × Bool)) (n : Str) (b : Bool) : saidBy (l ++ [(n, b)]) = saidBy l ++ (if b then [n] else []) := by
  induction l with
  | nil => cases b <;> rfl
  | cons p l ih =>
    obtain ⟨m, c⟩ := p
    cases c
    · show saidBy (l ++ [(n, b)]) = saidBy l ++ _
      exact ih
    · show m :: saidBy (l ++ [(n, b)]) = m :: saidBy l ++ _
      rw [ih]; rfl
theorem cons_rd {t : TE} {r : TA} {σ : L2.St} {H : Hp} {Q : List V → Hp → Prop} (h : t σ H fun v H1 => r σ H1 fun vs H2 => Q (v :: vs) H2) : tCons t r σ H Q := h
theorem nil_rd {σ : L2.St} {H : Hp} {Q : List V → Hp → Prop} (h : Q [] H) : tNil σ H Q := h
theorem var_rd {i : Nat} {v : V} {σ : L2.St} {H : Hp} {Q : VK} (h : σ[i]? = some (some v)) (q : Q v H) : tVar i σ H Q := ⟨v, h, q⟩
theorem name_rd {i : Nat} {v : V} {σ : L2.St} {H : Hp} {Q : L2.St → Hp → Prop} (h : Q (σ.set i (some v)) H) : gName i v σ H Q := h
theorem two_small {n : Nat} (h : Nat.ble n 1000 = true) : n ≤ sizeLine := Nat.le_of_lt (small1000 (Nat.le_of_ble_eq_true h))
theorem pair_rd {K : PySem.W.Frag} {σ : L2.St} {H : Hp} {Q : VK} {n : Str} {B : Addr} {b : Bool} {fs : List (Str × V)} (hσ : σ[1]? = some (some (.ref a))) (hx : H dx = some (.xd fs)) (k : PySem.W.kitOne K (.ref C) (.ref B) = some b)
    (h : ∀ p, H p = none → Q (.ref p) (upd H p (.tup [.str n, .bl b]))) : tPair K C a dx n B σ H Q := ⟨.ref a, hσ, B, b, fs, rfl, k, hx, two_small rfl, h⟩
def prLen : List (Str × Bool) → Nat
  | [] => 0
  | (n, _) :: r => n.length + prLen r
theorem said_len : ∀ l : List (Str × Bool), ((saidBy l).map Str.length).sum ≤ prLen l ∧ (saidBy l).length ≤ l.length
  | [] => ⟨Nat.le_refl _, Nat.le_refl _⟩
  | (m, false) :: l => by
    obtain ⟨h1, h2⟩ := said_len l
    exact ⟨Nat.le_trans h1 (Nat.le_add_left _ _), Nat.le_succ_of_le h2⟩
  | (m, true) :: l => by
    obtain ⟨h1, h2⟩ := said_len l
    refine ⟨?_, Nat.succ_le_succ h2⟩
    show ((m :: saidBy l).map Str.length).sum ≤ m.length + prLen l
    rw [List.map_cons, List.sum_cons]
    exact Nat.add_le_add_left h1 _
theorem ret_rd {K : PySem.W.Frag} {t0 t2 t3 t4 : Option V} {H : Hp} {Q : VK} {prs : List (Str × Bool)} {ps : List Addr} {l : Addr} {u : V} {z : Str} {cl : Value} (h2 : t2 = some (.ref l)) (hl : H l = some (.lst (ps.map V.ref))) (hp : ∀ (i : Nat) (x : V), (ps.map V.ref)[i]? = some x → ∃ (p : Addr) (n : Str) (b : Bool), x = .ref p ∧ H p = some (.tup [.str n, .bl b]) ∧ prs[i]? = some (n, b))
    (hx : H dx = some (.xd [(("what" : Str), u)])) (small : prLen prs ≤ 1000) (few : prs.length ≤ 1000) (hz : Txt.join " " (saidBy prs) = z) (k : ∀ H', Same H H' → mkPair z u H' Q) (hlen : prs.length = ps.length) (hc : cl = .ref C) :
    tTup (tCons (tM1 (fun x xs H Q => ∃ a p, ∃ ys : List Str, x = .str a ∧ xs = [.ref p] ∧ (SqL K H p (ys.map V.str) ∨ SqT K H p (ys.map V.str)) ∧ (ys.map (·.length)).sum + ys.length * a.length ≤ 16777216 ∧ Q (.str (Txt.join a ys)) H) (tC (.str " "))
      (tLcH K 2 (gTup K 2 (gCons (gName 3) (gCons (gName 4) gNil))) (L2.tB (tVar 4)) (tVar 3) [3, 4])) (tCons (tXf a cl (some dx) C "what" (tVar 1)) tNil)) [t0, some (.ref a), t2, t3, t4] H Q := by
  subst h2 hc
  unfold tTup
  refine cons_rd ⟨⟨_, rfl⟩, l, ps.map V.ref, rfl, SqL.of hl, fun D hD => ?_⟩
  refine ⟨fun i H' => H' D = some (.lst ((saidBy (prs.take i)).map V.str)) ∧ Same H H', ⟨upd_same, fun b o e => by rw [upd_ne (ne_of_none e hD)]; exact e⟩, fun i H' w => SqL.of (w.2 _ _ hl), ?_, ?_⟩
  · rintro i x H' hi ⟨w1, w2⟩
    obtain ⟨p, n, b, rfl, e1, e2⟩ := hp i x hi
    have lt : i < prs.length := (List.getElem?_eq_some_iff.mp e2).1
    have tk : saidBy (prs.take (i + 1)) = saidBy (prs.take i) ++ (if b then [n] else []) := by
      rw [List.take_add_one, e2]
      exact saidBy_snoc _ n b
    refine ⟨p, [.str n, .bl b], rfl, .inl (.inl (w2 _ _ e1)), rfl, .str n, [.bl b], rfl, .bl b, [], rfl, rfl, rfl, .bl b, rfl, b, rfl, ?_⟩
    cases b with
    | false =>
      rw [if_neg Bool.false_ne_true]
      refine ⟨?_, w2⟩
      rw [tk, w1]
      simp
    | true =>
      rw [if_pos rfl]
      refine ⟨.str n, rfl, _, w1, ?_, ?_, fun b o e => by rw [upd_ne (ne_of_none e hD)]; exact w2 b o e⟩
      · rw [List.length_map]
        have := (said_len (prs.take i)).2
        rw [List.length_take] at this
        exact small1000 (by omega)
      · rw [upd_same, tk]
        simp
  · rintro H' ⟨w1, w2⟩
    have e : prs.take (ps.map V.ref).length = prs := by rw [List.length_map, ← hlen]; exact List.take_length
    rw [e] at w1
    obtain ⟨s1, s2⟩ := said_len prs
    refine ⟨" ", D, saidBy prs, rfl, rfl, .inl (SqL.of w1), ?_, ?_⟩
    · have e1 : (" " : Str).length = 1 := rfl
      have e2 : ((saidBy prs).map fun x => x.length).sum = ((saidBy prs).map Str.length).sum := rfl
      rw [e1, e2]
      omega
    · refine cons_rd (var_rd rfl ⟨rfl, rfl, dx, _, u, rfl, w2 _ _ hx, by simp [List.lookup], nil_rd ⟨two_small rfl, fun p hp => ?_⟩⟩)
      rw [hz]
      exact (k H' w2).2 p hp
def tSuite (a dx : Addr) (z : Str) (u : V) : TS := fun Ds σ H => σ.length = 5 ∧ σ[1]? = some (some (.ref a)) ∧ H dx = some (.xd [(("what" : Str), u)]) ∧ ∀ H'', Same H H'' → mkPair z u H'' Ds.rt
theorem pss_told (T : ToldX X n1 n2 n3 B1 B2 B3 cs) (F : XFacts X.K C R B1 B2 B3 b1 b2 b3) (hz : L2N.Zn (.ref C) (some dx) oe) (hf : ∃ vs, oe.data = .fields vs) (u : V) (hzt : Txt.join " " (saidBy [(n1, b1), (n2, b2), (n3, b3)]) = z) (small : n1.length + n2.length + n3.length ≤ 1000)
    (hl : ((q 27).endLine == (q 35).line) = true) : PSs (X.suite a ((a, oe) :: pn)) (toldSuite n1 n2 n3 cs q) (tSuite a dx z u) := by
  have nd : (X.suite a ((a, oe) :: pn)).N.Nodup := by show X.N.Nodup; rw [T.N]; decide
  have at2 : (X.suite a ((a, oe) :: pn)).N[2]? = some ("some" : Str) := by show X.N[2]? = _; rw [T.N]; rfl
  have hot : L2H.Hot1 (X.suite a ((a, oe) :: pn)).A (a, oe) := ⟨rfl, by obtain ⟨vs, hv⟩ := hf; exact ⟨vs, hv, hz.2.2 vs hv⟩⟩
  have bk : BlkOk (X.suite a ((a, oe) :: pn)).N (X.suite a ((a, oe) :: pn)).env.scope cs [("word", 3), ("is_one", 4)] := by
    show BlkOk X.N X.env.scope cs _
    rw [T.N]
    exact blkOk_by T.bk
  have v1 : PE (X.suite a ((a, oe) :: pn)) (.Name "e" (q 36)) (tVar 1) := pe_var (by show X.N[1]? = _; rw [T.N]; rfl) (.inl T.le) rfl rfl
  have v2 : PE (X.suite a ((a, oe) :: pn)) (.Name "some" (q 16)) (tVar 2) := pe_var at2 (.inl T.ls) rfl rfl
  have lw := fun s H c cl fp => blk_loc (X := X.suite a ((a, oe) :: pn)) (s := s) (H := H) (scope := cs) (cl := cl) (a := c) (fp := fp) "word" T.lw
  have li := fun s H c cl fp => blk_loc (X := X.suite a ((a, oe) :: pn)) (s := s) (H := H) (scope := cs) (cl := cl) (a := c) (fp := fp) "is_one" T.li
  have nw : X.N[3]? = some ("word" : Str) := by rw [T.N]; rfl
  have ni : X.N[4]? = some ("is_one" : Str) := by rw [T.N]; rfl
  have vis : ∀ {sc : Scope} {x : Str}, Loc sc x → Vis sc x := fun h => h.elim .inl fun k => .inr (.inl k)
  have lc : PE (X.suite a ((a, oe) :: pn)) (.ListComp (.Name "word" (q 28)) [⟨.Tuple [.Name "word" (q 29), .Name "is_one" (q 30)] 0 (q 31), .Name "some" (q 32), [.Name "is_one" (q 33)], 0⟩] cs (q 34)) (tLcH X.K 2 (gTup X.K 2 (gCons (gName 3) (gCons (gName 4) gNil))) (L2.tB (tVar 4)) (tVar 3) [3, 4]) :=
    pe_lcH (i := 2) (pos := q 34) (py := q 32) hot List.mem_cons_self nd at2 (.inl T.ls) rfl rfl bk
      (fun s H c cl fp => pg_tupH (X := (X.suite a ((a, oe) :: pn)).blk s H cs (compEnvC cs cl c (X.suite a ((a, oe) :: pn)).env) fp) (n := 2) hot (pgs_cons (pg_name (i := 3) nd nw (lw s H c cl fp).1 (lw s H c cl fp).2) (pgs_cons (pg_name (i := 4) nd ni (li s H c cl fp).1 (li s H c cl fp).2) pgs_nil)) rfl rfl)
      (fun s H c cl fp => pts_one (pt_val (pe_var (X := (X.suite a ((a, oe) :: pn)).blk s H cs (compEnvC cs cl c (X.suite a ((a, oe) :: pn)).env) fp) (pos := q 33) (i := 4) ni (vis (li s H c cl fp).1) rfl rfl))) (fun s H c cl fp => pe_var (X := (X.suite a ((a, oe) :: pn)).blk s H cs (compEnvC cs cl c (X.suite a ((a, oe) :: pn)).env) fp) (pos := q 28) (i := 3) nw (vis (lw s H c cl fp).1) rfl rfl)
  refine pss_weak (pss_cons (ps_set nd at2 (.inl T.ls) (pe_lst (pa_cons (pe_pair T F hz.zc hf T.g1 T.m1 T.d1 _ _ _ _ _ _) (pa_cons (pe_pair T F hz.zc hf T.g2 T.m2 T.d2 _ _ _ _ _ _) pa_nil))) rfl (.inr T.ls))
    (pss_cons (ps_set nd at2 (.inl T.ls) (pe_op op_cat v2 (pe_lst (pa_cons (pe_pair T F hz.zc hf T.g3 T.m3 T.d3 _ _ _ _ _ _) pa_nil))) rfl (.inr T.ls))
    (pss_one (ps_ret (pe_tup (pa_cons (pe_join pe_str lc rfl rfl hl) (pa_cons (pe_xf F.xf F.no hz.zc hf v1) pa_nil))))))) fun Ds σ H h => ?_
  obtain ⟨ln, hσ, hx, k⟩ := h
  have s2 : ∀ v : V, (σ.set 2 (some v))[1]? = some (some (.ref a)) := fun v => by rw [List.getElem?_set_ne (by decide)]; exact hσ
  -- the first two pairs, their list
  have ne : ∀ {H : Hp} {b c : Addr} {o u : HO}, H b = some o → H c = none → (upd H c u) b = some o := fun e f => by rw [upd_ne (ne_of_none e f)]; exact e
  have sm : ∀ {H : Hp} {c : Addr} {u : HO}, H c = none → Same H (upd H c u) := fun f b o e => ne e f
  unfold tSeq tAsg tLst tRet tOp
  refine cons_rd (pair_rd hσ hx F.k1 fun p1 h1 => cons_rd (pair_rd hσ (ne hx h1) F.k2 fun p2 h2 => nil_rd ⟨two_small rfl, fun l1 h3 => ?_⟩))
  have lt : 2 < σ.length := by omega
  refine name_rd ?_
  dsimp only
  refine var_rd (List.getElem?_set_self lt) ?_
  refine cons_rd (pair_rd (s2 _) (ne (ne (ne hx h1) h2) h3) F.k3 fun p3 h4 => nil_rd ⟨two_small rfl, fun l2 h5 => ?_⟩)
  refine ⟨l1, l2, [.ref p1, .ref p2], [.ref p3], rfl, rfl, ne (ne upd_same h4) h5, upd_same, two_small rfl, fun l3 h6 => ?_⟩
  refine name_rd ?_
  have big := ((((((sm (u := .tup [.str n1, .bl b1]) h1).trans (sm (u := .tup [.str n2, .bl b2]) h2)).trans (sm (u := .lst [.ref p1, .ref p2]) h3)).trans (sm (u := .tup [.str n3, .bl b3]) h4)).trans (sm (u := .lst [.ref p3]) h5)).trans (sm (u := .lst [.ref p1, .ref p2, .ref p3]) h6))
  have q1 := ne (u := .lst [.ref p1, .ref p2, .ref p3]) (ne (u := .lst [.ref p3]) (ne (u := .tup [.str n3, .bl b3]) (ne (u := .lst [.ref p1, .ref p2]) (ne (H := upd H p1 (.tup [.str n1, .bl b1])) (u := .tup [.str n2, .bl b2]) upd_same h2) h3) h4) h5) h6
  have q2 := ne (u := .lst [.ref p1, .ref p2, .ref p3]) (ne (u := .lst [.ref p3]) (ne (u := .tup [.str n3, .bl b3]) (ne (H := upd (upd H p1 (.tup [.str n1, .bl b1])) p2 (.tup [.str n2, .bl b2])) (u := .lst [.ref p1, .ref p2]) upd_same h3) h4) h5) h6
  have q3 := ne (u := .lst [.ref p1, .ref p2, .ref p3]) (ne (H := upd (upd (upd (upd H p1 (.tup [.str n1, .bl b1])) p2 (.tup [.str n2, .bl b2])) l1 (.lst [.ref p1, .ref p2])) p3 (.tup [.str n3, .bl b3])) (u := .lst [.ref p3]) upd_same h5) h6
  have q4 : upd (upd (upd (upd (upd (upd H p1 (.tup [.str n1, .bl b1])) p2 (.tup [.str n2, .bl b2])) l1 (.lst [.ref p1, .ref p2])) p3 (.tup [.str n3, .bl b3])) l2 (.lst [.ref p3])) l3 (.lst [.ref p1, .ref p2, .ref p3]) l3 = some (.lst [.ref p1, .ref p2, .ref p3]) := upd_same
  match σ, ln, hσ with
  | [t0, t1, t2, t3, t4], _, hσ =>
    have et : t1 = some (.ref a) := by simpa using hσ
    subst et
    refine ret_rd (K := X.K) (prs := [(n1, b1), (n2, b2), (n3, b3)]) (ps := [p1, p2, p3]) (l := l3) rfl q4 (fun i x hi => ?_) (big _ _ hx) (by show n1.length + (n2.length + (n3.length + 0)) ≤ 1000; omega) (by show 3 ≤ 1000; decide) hzt (fun H'' x => k H'' (big.trans x)) rfl rfl
    match i, hi with
    | 0, hi => cases hi; exact ⟨p1, n1, b1, rfl, q1, rfl⟩
    | 1, hi => cases hi; exact ⟨p2, n2, b2, rfl, q2, rfl⟩
    | 2, hi => cases hi; exact ⟨p3, n3, b3, rfl, q3, rfl⟩
end
end TI

set_option Elab.async false
set_option autoImplicit false
set_option maxRecDepth 100000
set_option maxHeartbeats 8000000
set_option linter.all false
/-! TI33: _law_told_by called with a lambda. -/
namespace TI
open PySem PySem.Spec PyProof.Rows L2 LamX HotX
/-- what the written part says of _law_told_by, at g -/
structure ToldKok (w : Nm) (cls : Nat → Addr) (K : PySem.W.Frag) (mg : Str → Option Value) (pg : Arguments) (g R B1 B2 B3 : Addr) (n1 n2 n3 : Str) (cs sg : Scope) (q : Nat → Pos) (fd : FuncData) : Prop where
  F : FunD K "_law_told_by" "_law_told_by" pg (toldBody n1 n2 n3 cs q) sg [] [] g fd
  mg0 : mg "_law_told_by" = some (.ref g)
  bd : Binds K fd ["call"] []
  S : FnScope toldN ["call"] sg
  lc : sg.names.lookup ("call" : Str) = some .local
  le : sg.names.lookup ("e" : Str) = some .local
  ls : sg.names.lookup ("some" : Str) = some .local
  gi : sg.names.lookup ("isinstance" : Str) = some .globalImplicit
  gR : sg.names.lookup ("Refused" : Str) = some .globalImplicit
  g1 : sg.names.lookup n1 = some .globalImplicit
  g2 : sg.names.lookup n2 = some .globalImplicit
  g3 : sg.names.lookup n3 = some .globalImplicit
  mi : mg "isinstance" = none
  mR : mg "Refused" = some (.ref R)
  m1 : mg n1 = some (.ref B1)
  m2 : mg n2 = some (.ref B2)
  m3 : mg n3 = some (.ref B3)
  d1 : (n1 == ("__debug__" : Str)) = false
  d2 : (n2 == ("__debug__" : Str)) = false
  d3 : (n3 == ("__debug__" : Str)) = false
  bk : blkC toldN sg cs [("word", 3), ("is_one", 4)] = true
  lw : locB cs "word" = true
  li : locB cs "is_one" = true
  sm : n1.length + n2.length + n3.length ≤ 1000
  hl : ((q 27).endLine == (q 35).line) = true
  cl : ∀ (k : Nat) (z : Str), w.tn.lookup k = some z → ∃ b1 b2 b3, XFacts K (cls k) R B1 B2 B3 b1 b2 b3 ∧ Txt.join " " (saidBy [(n1, b1), (n2, b2), (n3, b3)]) = z
theorem takes0N {X : Cx} : L2N.Takes X (fun _ _ _ _ => False) := fun u s' ⟨_, _, _, _, _, _, _, _, _, _, _, _, _, _, _, _, f⟩ => f.elim
section
variable {X : Cx}
theorem pe_told {w : Nm} {cls : Nat → Addr} {T : List (Addr × Str)} {pg : Arguments} {g R B1 B2 B3 c P : Addr} {n1 n2 n3 : Str} {cs sg : Scope} {q : Nat → Pos} {fd : FuncData} {k : Nat} (K : ToldKok w cls X.K X.mg pg g R B1 B2 B3 n1 n2 n3 cs sg q fd) (TB : TabB X.base X.mg c P) (hcode : X.env.code = .ref c) (hmT : (P, lamQ X) ∈ T)
    (hu : ∀ p ∈ T, p.1 = P → p.2 = lamQ X) (hr : Room (k + 2) X.A) {x : Expr} {ls : Scope} {lp p pos : Pos} {t : XK → TE} (L : LamS X.env.scope ls) (hg : glB X.env.scope "_law_told_by" = true)
    (hbody : ∀ (A : Around) (outer : List Env) (s : Shared) (H : Hp) (E : XK) (f c' : Addr), Room k (A.deeper (lamEnv X ls s.heap.objs.size f c')) → PE (lamN X A outer s H E ls f c') x (t E)) :
    PE X (.Call (.Name "_law_told_by" p) [.Lambda noArgs x ls lp] [] pos) (tLamX T (TTold w cls) t) := by
  obtain ⟨hgl, hdb⟩ := glB_ok hg
  obtain ⟨oc, od, dV, kV, doc, pm, an, cdv, ct, osl, rfl, lk, hcd, hD, _⟩ := K.F.ex
  refine ⟨fun pins s σ H Q I h => ?_⟩
  obtain ⟨hT, h⟩ := h
  refine wpAny_Call_Name_kw (ld_glob I hgl K.mg0 ?_ hdb)
  refine PySem.W.callWith_K (h₀ := X.base) I.ok.mod.kin K.F.kp ?_ (by rfl) (by rfl)
  show wpAny _ _ (spliced ((false, eval (.Lambda noArgs x ls lp) X.env) :: backTo pos (starEach [] X.env))) _ _ s
  refine Calls.spliced_cons (lamN_make I TB hcode hmT hu hT rfl (L.has I.ok) fun f c' pm' ctv H1 s' I1 eN T1 th hf hfn hfr hco => ?_)
  refine Calls.spliced_nil ⟨I1.kIn, ?_⟩
  have h := h H1 eN T1 th
  refine wpAny_call (codeAny_mono (?_ : codeAny (model X.prog X.w) X.A (.call (.ref g) ⟨[.ref f], []⟩) (CR C8.CX0 X.stack X.prog X.w H1 s' Q C8.E0) s') fun r s2 hq => ?_)
  · refine run_ofS (N := toldN) (ps := ["call"]) (us := [.ref f]) (vs := [.ref f]) lk hcd K.S hr I1.env0 (K.bd s' [.ref f] I1.kIn rfl) (.cons rfl .nil) rfl fun hr' => ?_
    have nd : toldN.Nodup := K.S.nd
    refine ⟨_, PSs.nox (pss_one (L2N.ps_try_as (X := (cxOf C8.CX0 X.prog X.w X.K X.mg X.base toldN "_law_told_by" sg g cdv X.A X.stack s' H1 C8.E0).nox) (i := 1) (c := .ref R)
      (tb := fun W D σZ HZ => ∃ Ech : XK, (∀ cl d σ' H', Ech cl d H' → W cl d σ' H') ∧ σZ[0]? = some (some (.ref f)) ∧ HZ c' = some (CodeO c' (lamQ X)) ∧ t Ech σ HZ (fun v H' => mkPair "told" v H' D.rt))
      (ts := fun a cl d Ds σZ HZ => ∃ (k : Nat) (dx : Addr) (u : V) (z : Str) (σ0 : L2.St), cl = .ref (cls k) ∧ w.tn.lookup k = some z ∧ d = some dx ∧ σZ = σ0.set 1 (some (.ref a)) ∧ HZ dx = some (.xd [(("what" : Str), u)]) ∧ ∀ H'', Same HZ H'' → mkPair z u H'' Ds.rt) (Wout := fun _ _ _ _ => False)
      rfl rfl nd rfl K.le ⟨K.gR, rfl, .inl K.mR⟩ takes0N (fun W pn xe tk _ => ?_) fun a oe cl d pn hz hf2 => ?_)), ?_⟩
    · refine ⟨fun pinsZ sZ σZ HZ D IZ hZ => ?_⟩
      obtain ⟨Ech, hW, z1, z2, z3⟩ := hZ
      have hp := actN (CXg := C8.CX0) (Eg := C8.E0) (Ng := toldN) (i := 0) (a := "call") (p1 := q 41) (p2 := q 42) I1 L hf hfn hfr rfl tk hW hr' (fun A outer s H hr2 => hbody A outer s H Ech f c' hr2) rfl (.inl K.lc) rfl rfl
      exact (pss_one (ps_ret (pos := q 44) (pe_tup (pos := q 43) (x1 := 0) (pa_cons (pe_str (pos := q 40) (j := 0)) (pa_cons hp pa_nil))))).run pinsZ sZ σZ HZ D IZ ⟨z1, z2, z3⟩
    · refine ⟨fun pinsZ sZ σZ HZ D IZ hZ => ?_⟩
      obtain ⟨k0, dx, u, z, σ0, rfl, e2, rfl, rfl, z5, z6⟩ := hZ
      obtain ⟨b1, b2, b3, F, hj⟩ := K.cl k0 z e2
      have ln : (σ0.set 1 (some (V.ref a))).length = 5 := IZ.len
      refine (pss_told (X := (cxOf C8.CX0 X.prog X.w X.K X.mg X.base toldN "_law_told_by" sg g cdv X.A X.stack s' H1 C8.E0).nox) (q := q) ⟨rfl, K.le, K.ls, K.gi, K.g1, K.g2, K.g3, K.mi, K.m1, K.m2, K.m3, K.d1, K.d2, K.d3, K.bk, K.lw, K.li⟩ F hz hf2 u hj K.sm K.hl).run pinsZ sZ _ HZ D IZ ⟨ln, ?_, z5, z6⟩
      rw [List.length_set] at ln
      exact List.getElem?_set_self (by omega)
    · refine ⟨_, fun cl d σ' H' hE => ?_, rfl, hco, h⟩
      obtain ⟨k0, dx, u, z, rfl, e2, rfl, e4, e5⟩ := hE
      obtain ⟨b1, b2, b3, F, hj⟩ := K.cl k0 z e2
      exact ⟨true, F.ex, fun _ a _ => ⟨k0, dx, u, z, σ', rfl, e2, rfl, rfl, e4, e5⟩, fun z => nomatch z⟩
  · cases r with
    | error e => exact (show False from hq).elim
    | ok fl =>
      cases fl with
      | ret u => exact I1.after hq
      | next => exact False.elim hq
      | brk => exact False.elim hq
      | cont => exact False.elim hq
end
end TI

set_option Elab.async false
set_option autoImplicit false
set_option maxRecDepth 100000
set_option maxHeartbeats 8000000
set_option linter.all false
/-! TI34: an exception of an own class with one field is made; its context is None. -/
namespace TI
open PySem PySem.Spec PyProof.Rows L2
section
variable {P : Program} {w : World} {K : PySem.W.Frag} {mg : Str → Option Value} {base : Heap}
def spInit (K : PySem.W.Frag) : Sp := fun vs H Q E => ∃ (a C : Addr) (v : V), vs = [.ref a, v] ∧ OexC K C ∧ PySem.W.findIn K (.ref C) "what" = some none ∧ H a = some (exo a C none) ∧
  ∀ d, H d = none → d ≠ a → Q .non (upd (upd H d (exd d [(("what" : Str), v)])) a (exo a C (some d)))
theorem ok_init {x qual : Str} {pa : Arguments} {sg : Scope} {fI : Addr} {fd : FuncData} {p1 p2 p3 p4 : Pos} (F : FunD K x qual pa (initBody p1 p2 p3 p4) sg [] [] fI fd) (S : FnScope ["self", "what"] ["self", "what"] sg)
    (l1 : sg.names.lookup ("self" : Str) = some .local) (l2 : sg.names.lookup ("what" : Str) = some .local) : FnOk P w K mg base (L2N.CX P w) 1 fI fd ["self", "what"] (spInit K) := by
  refine F.ok (k := 0) S (fun vs H Q E h => by obtain ⟨a, C, v, rfl, _⟩ := h; rfl) fun cdv A outer s H vs Q E hr h => ?_
  refine ⟨_, pss_one (ps_ost (pe_var (i := 0) (pos := p1) rfl (.inl l1) rfl rfl) (pe_var (i := 1) (pos := p3) rfl (.inl l2) rfl rfl)), ?_⟩
  obtain ⟨a, C, v, rfl, hC, hf, ha, k⟩ := h
  exact ⟨v, rfl, .ref a, rfl, a, C, rfl, hC, hf, .inl ⟨ha, fun d hd na => k d hd na⟩⟩
end
section
variable {X : Cx}
def one1 (k : V → Hp → Prop) : List V → Hp → Prop
  | [v], H => k v H
  | _, _ => False
theorem mk_what {x : Str} {C fI : Addr} {fd : FuncData} {e : Expr} {te : TE} {p pos : Pos} (T : OexC X.K C) (iC : PySem.W.findIn X.K (.ref C) "__init__" = some (some (.ref fI))) (tI : PySem.W.typeIn X.K (.ref fI) = some (.type "function")) (nw : PySem.W.findIn X.K (.ref C) "what" = some none)
    (F1 : FnOk X.prog X.w X.K X.mg X.base (L2N.CX X.prog X.w) 1 fI fd ["self", "what"] (spInit X.K)) (hr : Room 2 X.A) (hb : Binds X.K fd ["self", "what"] []) (hg : Gl X x) (hm : X.mg x = some (.ref C)) (he : PE X e te) (hdb : (x == ("__debug__" : Str)) = false) (hpl : plainX e = true) :
    L2N.PMk X (.Call (.Name x p) [e] [] pos) (tMkX C te) := by
  intro pins s σ H Q I h
  obtain ⟨nm, q, N, bs, bm, sn, sub, ab, col, dd, k0, k1, k2, k3, k5, hC, hbm⟩ := T.cls
  refine wpAny_Call_Name_kw (ld_glob I hg hm ?_ hdb)
  refine PySem.W.callWith_K (h₀ := X.base) I.ok.mod.kin T.kC (thn ((pa_cons he pa_nil (star_cons hpl)).run pos pins s σ H (one1 fun v H1 => ∀ d, H1 d = none → Q (.ref C) (some d) (upd H1 d (.xd [(("what" : Str), v)]))) I h) fun us s1 hu => ?_) (star_cons hpl) rfl
  obtain ⟨vs, H1, I1, r1, q1⟩ := hu
  match vs, us, r1, q1 with
  | [v], [u], r1, q1 =>
  refine ⟨I1.kIn, ?_⟩
  have q1 : ∀ d, H1 d = none → Q (.ref C) (some d) (upd H1 d (.xd [(("what" : Str), v)])) := q1
  show wpAny _ _ (call (.ref C) [u]) _ _ _
  obtain ⟨hp, g, dr, tk, os⟩ := s1
  have hsz : hp.objs.size ≤ hp.objs.size + 1 := Nat.le_succ _
  have hn : H1 (hp.objs.size + 1) = none := I1.hok.fresh hsz
  have kk : ∀ b o, hp.get? b = some o → ((hp.push (PySem.W.kdv_tup [u])).push (PySem.HandSPX.excO C hp.objs.size)).get? b = some o := fun b o e => Heap.get?_push_of_some _ (Heap.get?_push_of_some _ e)
  have hget : ((hp.push (PySem.W.kdv_tup [u])).push (PySem.HandSPX.excO C hp.objs.size)).get? (hp.objs.size + 1) = some (PySem.HandSPX.excO C hp.objs.size) := by heap_get
  have I2 : Inv X pins σ (upd H1 (hp.objs.size + 1) (exo (hp.objs.size + 1) C none)) ⟨(hp.push (PySem.W.kdv_tup [u])).push (PySem.HandSPX.excO C hp.objs.size), g, dr, tk, os⟩ := I1.laid (t' := tk) kk hsz (exo_ok hget)
  have b2 := hb _ [Value.ref (hp.objs.size + 1), u] I2.kIn rfl
  have sp : spInit X.K [V.ref (hp.objs.size + 1), v] (upd H1 (hp.objs.size + 1) (exo (hp.objs.size + 1) C none)) (fun v' H2 => v' = .non ∧ ∃ d, H1 d = none ∧ d ≠ hp.objs.size + 1 ∧ H2 = upd (upd (upd H1 (hp.objs.size + 1) (exo (hp.objs.size + 1) C none)) d (exd d [(("what" : Str), v)])) (hp.objs.size + 1) (exo (hp.objs.size + 1) C (some d))) fun _ _ _ => False :=
    ⟨_, C, v, rfl, T, nw, upd_same, fun d hd na => ⟨rfl, d, by rw [upd_ne na] at hd; exact hd, na, rfl⟩⟩
  refine wpAny_call (PySem.HandSPX.call_own F.excBase_ValueError (fun Y => PySem.HandSPX.refsVE_contains Y bm hbm) (I1.kIn _ _ hC) (PySem.W.looks_findIn I1.kIn iC) (fun self => PySem.W.bind_fn I1.kIn self tI) (by show 1 ≤ sizeLine; exact Nat.le_of_lt (small1000 (by decide)))
    (codeAny_mono (F1.run _ X.stack _ _ ⟨[Value.ref (hp.objs.size + 1), u], []⟩ [Value.ref (hp.objs.size + 1), u] _ _ (fun _ _ _ => False) (hr.make C [u] []) (I2.env0.make C [u] []) b2 (Paired.cons (show L2.RelV (V.ref (hp.objs.size + 1)) (Value.ref (hp.objs.size + 1)) from rfl) r1) sp) fun r s' hq => ?_))
  cases r with
  | error er =>
    obtain ⟨_, _, _, _, _, _, _, _, _, _, _, _, z⟩ := hq
    exact z.elim
  | ok fl =>
    cases fl with
    | next => exact False.elim hq
    | brk => exact False.elim hq
    | cont => exact False.elim hq
    | ret u' =>
      obtain ⟨v', H2, os2, bare2, un2, hok2, rv, ev, d, hd, na, eH⟩ := hq
      subst ev
      obtain ⟨h2, g2, d2, t2, os'⟩ := s'
      have ea : H2 (hp.objs.size + 1) = some (exo (hp.objs.size + 1) C (some d)) := by rw [eH]; exact upd_same
      have ed : H2 d = some (exd d [(("what" : Str), v)]) := by rw [eH, upd_ne na, upd_same]
      obtain ⟨t0, G, J, kG, ge, hoe, nG⟩ := mk_end0 (d2 := d2) (t2 := t2) I1 hsz kk un2 hok2 os2 bare2 ea ed hd
      refine ⟨rv, hp.objs.size + 1, _, _, ⟨G, g2, d2, t2, os'⟩, _, .ref C, some d, rfl, J, kG, ge, hoe, ⟨rfl, rfl, fun vs hv => by cases hv; rfl⟩, rfl, rfl, nG, rfl, bare2, raises_own T.exC T.tyC, ?_⟩
      have e2 : upd (del H2 (hp.objs.size + 1)) d (.xd [(("what" : Str), v)]) = upd H1 d (.xd [(("what" : Str), v)]) := by
        rw [eH]
        funext b
        by_cases hb : b = d
        · rw [hb, upd_same, upd_same]
        · rw [upd_ne hb, upd_ne hb]
          by_cases hc : b = hp.objs.size + 1
          · rw [hc, del_same, hn]
          · rw [del_ne hc, upd_ne hc, upd_ne hb, upd_ne hc]
      rw [e2]
      exact q1 d hd
end
end TI

set_option Elab.async false
set_option autoImplicit false
set_option maxRecDepth 100000
set_option maxHeartbeats 1000000
set_option linter.all false
/-! TI35: the defs of a text run as their trees say. -/
namespace TI
open PySem PySem.Spec PyProof.Rows L2 LamX
/-! ### a frame's slots -/
section
variable {K : PySem.W.Frag} {T : List (Addr × Str)} {ss e' : En} {vs : List V} {σ σ' : L2.St} {F F' H H' : Hp} {m : Nat}
theorem fr_get {i : Nat} {s : Slot} {xs : List D} (h : (ss ++ List.replicate m .emp)[i]? = some s) (hs : held s = some xs) : ss[i]? = some s := by
  by_cases hi : i < ss.length
  · rw [List.getElem?_append_left hi] at h
    exact h
  · rw [List.getElem?_append_right (by omega)] at h
    have := List.mem_of_getElem? h
    rw [List.mem_replicate] at this
    rw [this.2] at hs
    cases hs
theorem fr_left {i : Nat} {s : Slot} (h : ss[i]? = some s) : (ss ++ List.replicate m .emp)[i]? = some s := by
  rw [List.getElem?_append_left (List.getElem?_eq_some_iff.mp h).1]
  exact h
theorem fr_own (hl : ss.length = vs.length) (hσ : ∀ i, i < vs.length → σ[i]? = (vs.map some)[i]?) {a : Addr} : Own (ss ++ List.replicate m .emp) σ a ↔ Own ss (vs.map some) a := by
  constructor
  · rintro ⟨i, s, xs, h1, h2, h3⟩
    have h := fr_get h1 h2
    have lt := (List.getElem?_eq_some_iff.mp h).1
    exact ⟨i, s, xs, h, h2, by rw [← hσ i (by omega)]; exact h3⟩
  · rintro ⟨i, s, xs, h1, h2, h3⟩
    have lt := (List.getElem?_eq_some_iff.mp h1).1
    exact ⟨i, s, xs, fr_left h1, h2, by rw [hσ i (by omega)]; exact h3⟩
/-- the frame begins -/
theorem fr_agr (g : Agr K T ss (vs.map some) F H) (hσ : ∀ i, i < vs.length → σ[i]? = (vs.map some)[i]?) (hl : σ.length = ss.length + m) : Agr K T (ss ++ List.replicate m .emp) σ F H := by
  have sl : ss.length = vs.length := by rw [g.len, List.length_map]
  refine ⟨by rw [List.length_append, List.length_replicate, hl], fun i s h => ?_, fun i j s t xs ys h1 h2 h3 h4 ne => ?_, g.sub, g.noT, g.tab⟩
  · by_cases hi : i < ss.length
    · rw [List.getElem?_append_left hi] at h
      rw [hσ i (by omega)]
      exact g.slots i s h
    · have lt : i < σ.length := by
        have := (List.getElem?_eq_some_iff.mp h).1
        rw [List.length_append, List.length_replicate] at this
        omega
      rw [List.getElem?_append_right (by omega)] at h
      have := List.mem_of_getElem? h
      rw [List.mem_replicate] at this
      rw [this.2]
      exact ⟨σ[i], List.getElem?_eq_getElem lt, trivial⟩
  · have k1 := fr_get h1 h3
    have k2 := fr_get h2 h4
    have l1 := (List.getElem?_eq_some_iff.mp k1).1
    have l2 := (List.getElem?_eq_some_iff.mp k2).1
    rw [hσ i (by omega), hσ j (by omega)]
    exact g.dis i j s t xs ys k1 k2 h3 h4 ne
theorem outs_get : ∀ {ss e' : En} {i : Nat} {s : Slot}, (outs ss e')[i]? = some s → s = .emp ∨ (∃ xs, ss[i]? = some (.io xs)) ∧ e'[i]? = some s
  | [], _, i, s, h => by simp [outs] at h
  | a :: r, e', i, s, h => by
    cases a <;> cases e' with
    | nil => cases i with
      | zero => simp [outs] at h; exact .inl h.symm
      | succ i => simp [outs] at h; rcases outs_get h with z | ⟨⟨xs, z⟩, z2⟩
                  · exact .inl z
                  · exact .inr ⟨⟨xs, by simpa using z⟩, by simpa using z2⟩
    | cons b e' => cases i with
      | zero => first
          | (simp [outs] at h; exact .inl h.symm)
          | (simp [outs] at h; exact .inr ⟨⟨_, rfl⟩, by simpa using h⟩)
      | succ i => simp [outs] at h; rcases outs_get h with z | ⟨⟨xs, z⟩, z2⟩
                  · exact .inl z
                  · exact .inr ⟨⟨xs, by simpa using z⟩, by simpa using z2⟩
theorem outs_len : ∀ (ss e' : En), (outs ss e').length = ss.length
  | [], _ => rfl
  | a :: r, [] => by cases a <;> simp [outs, outs_len r []]
  | a :: r, b :: e' => by cases a <;> simp [outs, outs_len r e']
theorem outs_io : ∀ {ss e' : En} {i : Nat} {xs : List D} {s : Slot}, ss[i]? = some (.io xs) → e'[i]? = some s → (outs ss e')[i]? = some s
  | [], _, _, _, _, h, _ => by simp at h
  | a :: r, [], _, _, _, _, h => by simp at h
  | a :: r, b :: e', 0, xs, s, h, h2 => by
    simp at h h2
    subst h h2
    rfl
  | a :: r, b :: e', i + 1, xs, s, h, h2 => by
    have q := outs_io (ss := r) (e' := e') (i := i) (by simpa using h) (by simpa using h2)
    cases a <;> simpa [outs] using q
/-- the frame ends -/
theorem fr_exit (g : Agr K T ss (vs.map some) F H) (hσ : ∀ i, i < vs.length → σ[i]? = (vs.map some)[i]?) (s : Step K T (ss ++ List.replicate m .emp) σ F H e' σ' F' H') : Step K T ss (vs.map some) F H (outs ss e') (vs.map some) F' H' ∧ ∀ a, Own (outs ss e') (vs.map some) a → Own e' σ' a := by
  have sl : ss.length = vs.length := by rw [g.len, List.length_map]
  have ow : ∀ {a : Addr}, Own (ss ++ List.replicate m .emp) σ a ↔ Own ss (vs.map some) a := fr_own sl hσ
  have io : ∀ {i : Nat} {t : Slot}, (outs ss e')[i]? = some t → t = .emp ∨ (∃ xs, ss[i]? = some (.io xs)) ∧ e'[i]? = some t ∧ σ'[i]? = (vs.map some)[i]? := fun {i t} h => by
    rcases outs_get h with z | ⟨⟨xs, z1⟩, z2⟩
    · exact .inl z
    · have lt := (List.getElem?_eq_some_iff.mp z1).1
      exact .inr ⟨⟨xs, z1⟩, z2, by rw [(s.io i xs (fr_left z1)).2]; exact hσ i (by omega)⟩
  have own' : ∀ a, Own (outs ss e') (vs.map some) a → Own e' σ' a ∧ Own ss (vs.map some) a := fun a ⟨i, t, xs, h1, h2, h3⟩ => by
    rcases io h1 with z | ⟨⟨ys, z1⟩, z2, z3⟩
    · rw [z] at h2; cases h2
    · exact ⟨⟨i, t, xs, z2, h2, by rw [z3]; exact h3⟩, ⟨i, _, ys, z1, rfl, h3⟩⟩
  refine ⟨⟨s.ff, fun a o h n => s.keep a o h fun z => n (ow.mp z), fun a o h f n => s.out a o h f fun z => n (ow.mp z), fun a z => .inl (own' a z).2, ⟨?_, fun i t h => ?_, fun i j t u xs ys h1 h2 h3 h4 ne => ?_, s.agr.sub, s.agr.noT, s.agr.tab⟩, fun i xs h => ?_, s.there⟩, fun a z => (own' a z).1⟩
  · rw [outs_len, List.length_map, sl]
  · have lt := (List.getElem?_eq_some_iff.mp h).1
    rw [outs_len] at lt
    have lm : i < (vs.map some).length := by rw [List.length_map]; omega
    rcases io h with z | ⟨_, z2, z3⟩
    · rw [z]
      exact ⟨_, List.getElem?_eq_getElem lm, trivial⟩
    · rw [← z3]
      exact s.agr.slots i t z2
  · rcases io h1 with z | ⟨_, z2, z3⟩
    · rw [z] at h3; cases h3
    · rcases io h2 with y | ⟨_, y2, y3⟩
      · rw [y] at h4; cases h4
      · rw [← z3, ← y3]
        exact s.agr.dis i j t u xs ys z2 y2 h3 h4 ne
  · obtain ⟨⟨ys, z⟩, _⟩ := s.io i xs (fr_left h)
    exact ⟨⟨ys, outs_io h z⟩, rfl⟩
theorem fr_res (g : Agr K T ss (vs.map some) F H) (hσ : ∀ i, i < vs.length → σ[i]? = (vs.map some)[i]?) (s : Step K T (ss ++ List.replicate m .emp) σ F H e' σ' F' H') {x : D × Fl} {v : V} (r : Res K (ss ++ List.replicate m .emp) σ H e' σ' F' H' x v) (nb : x.2.isBr = false) :
    Res K ss (vs.map some) H (outs ss e') (vs.map some) F' H' x v := by
  have sl : ss.length = vs.length := by rw [g.len, List.length_map]
  obtain ⟨d, f⟩ := x
  cases f with
  | val => exact r
  | xt => exact r
  | x1 => exact r
  | br i => cases nb
  | fr =>
    obtain ⟨xs, a, us, h1, h2, h3, h4, h5, h6, h7⟩ := r
    exact ⟨xs, a, us, h1, h2, h3, h4, h5, fun z => h6 ((fr_exit g hσ s).2 a z), h7.imp id (fr_own sl hσ).mp⟩
end
/-! ### texts of defs -/
@[reducible] def Nm.at (w : Nm) (b : Bool) : Nm := { w with lam := b }
theorem nodupB_ok : ∀ {l : List Str}, nodupB l = true → l.Nodup
  | [], _ => List.nodup_nil
  | a :: r, h => by
    obtain ⟨h1, h2⟩ := Bool.and_eq_true_iff.mp (show (!r.contains a && nodupB r) = true from h)
    refine List.nodup_cons.mpr ⟨fun z => ?_, nodupB_ok h2⟩
    rw [List.contains_iff_mem.mpr z] at h1
    exact absurd h1 (by decide)
def scopeB (N : List Str) (np : Nat) (sc : Scope) : Bool := decide (sc.kind = .function) && !sc.isCoroutine && !sc.isGenerator && nodupB N && decide (np ≤ N.length) && ((N.take np).all fun x => locB sc x) && (sc.names.all fun y => !decide (y.2 = .free))
theorem scopeB_ok {N : List Str} {np : Nat} {sc : Scope} (h : scopeB N np sc = true) : FnScope N (N.take np) sc ∧ np ≤ N.length := by
  unfold scopeB at h
  simp only [Bool.and_eq_true, decide_eq_true_eq, Bool.not_eq_true', List.all_eq_true, decide_eq_false_iff_not] at h
  obtain ⟨⟨⟨⟨⟨⟨h1, h2⟩, h3⟩, h4⟩, h5⟩, h6⟩, h7⟩ := h
  refine ⟨⟨h1, h2, h3, nodupB_ok h4, ?_, fun x hx => locB_ok (h6 x hx), h7⟩, h5⟩
  rw [List.length_take, Nat.min_eq_left h5]
def chkD (w : Nm) (t : DefT) (fd : FD) : Bool := scopeB t.N fd.np t.scope && decide (fd.ns = t.N.length) && chkX (w.at t.lam) t.N t.scope fd.body t.body
/-- the name of a def's lambdas -/
abbrev lamName (x : Str) : Str := (x ++ ".<locals>.") ++ "<lambda>"
structure Head (P : Program) (w0 : World) (K : PySem.W.Frag) (mg : Str → Option Value) (base : Heap) (w : Nm) (cls : Nat → Addr) (C : List D) (T : List (Addr × Str)) (ts : List DefT) (prog : List FD) : Prop where
  fns : ∀ (f : Nat) (x : Str), w.fn[f]? = some x → ∃ t fd, ts[f]? = some t ∧ prog[f]? = some fd ∧ chkD w t fd = true ∧ ∃ fa fdat, mg x = some (.ref fa) ∧ FunD K x x t.params t.body t.scope [] [] fa fdat ∧ Binds K fdat (t.N.take fd.np) [] ∧
    (t.lam = true → ∃ c Pt, fdat.code = .ref c ∧ TabB base mg c Pt ∧ (Pt, lamName x) ∈ T ∧ ∀ p ∈ T, p.1 = Pt → p.2 = lamName x)
  cons : ∀ (i : Nat) (x : Str) (d : D), w.cn[i]? = some x → C[i]? = some d → ∃ u v, mg x = some u ∧ RelV v u ∧ ∀ F, Dp K F v d
  clen : w.cn.length = C.length
  free : ∀ x ∈ bltN, mg x = none
  gcd : mg "gcd" = some (.builtin "math.gcd")
  kl : ∀ (a : Addr) (o : Obj), K.lookup a = some o → o.cls = .type "list" → o.slots = #[]
  init : ∃ (fI : Addr) (fd : FuncData), FnOk P w0 K mg base (L2N.CX P w0) 1 fI fd ["self", "what"] (spInit K) ∧ Binds K fd ["self", "what"] [] ∧ PySem.W.typeIn K (.ref fI) = some (.type "function") ∧
    ∀ (k : Nat) (z : Str), w.xn[k]? = some z → mg z = some (.ref (cls k)) ∧ OexC K (cls k) ∧ PySem.W.findIn K (.ref (cls k)) "__init__" = some (some (.ref fI)) ∧ PySem.W.findIn K (.ref (cls k)) "what" = some none
  told : (∃ (f : Nat) (t : DefT), ts[f]? = some t ∧ t.lam = true) → ∃ pg g R B1 B2 B3 n1 n2 n3 cs sg q fd, ToldKok w cls K mg pg g R B1 B2 B3 n1 n2 n3 cs sg q fd
section
variable {P : Program} {w0 : World} {K : PySem.W.Frag} {mg : Str → Option Value} {base : Heap} {w : Nm} {cls : Nat → Addr} {C : List D} {T : List (Addr × Str)} {ts : List DefT} {prog : List FD}
theorem start_at {N : List Str} {vs : List V} (h : vs.length ≤ N.length) : (L2.start N vs).length = N.length ∧ ∀ i, i < vs.length → (L2.start N vs)[i]? = (vs.map some)[i]? := by
  unfold L2.start
  refine ⟨by rw [List.length_append, List.length_map, List.length_replicate]; omega, fun i hi => ?_⟩
  rw [List.getElem?_append_left (by rw [List.length_map]; exact hi)]
theorem look {x qual : Str} {params : Arguments} {body : List Stmt} {scope : Scope} {f : Addr} {fd : FuncData} (F : FunD K x qual params body scope [] [] f fd) : ∃ o, K.lookup f = some o ∧ o.data = .func fd := by
  obtain ⟨oc, od, dV, kV, doc, pm, an, cdv, ct, osl, rfl, lk, _⟩ := F.ex
  exact ⟨_, lk, rfl⟩
theorem fn_ok (hd : Head P w0 K mg base w cls C T ts prog) (L : Nat) : ∀ (n f : Nat) (x : Str), w.fn[f]? = some x → ∃ fa fd ps, mg x = some (.ref fa) ∧ PySem.W.keepIn K (.ref fa) = true ∧ Binds K fd ps [] ∧
    FnOk P w0 K mg base (L2N.CX P w0) (3 * n + 5) fa fd ps (spF K T cls (runF prog C L n) f ps.length) ∧ (∀ ss, runF prog C L n f ss ≠ .stuck → ss.length = ps.length) ∧ (∃ o, K.lookup fa = some o ∧ o.data = .func fd) ∧ ∃ t fd', ts[f]? = some t ∧ prog[f]? = some fd' ∧ ps = t.N.take fd'.np := by
  intro n
  induction n with
  | zero =>
    intro f x hx
    obtain ⟨t, fd, h1, h2, h3, fa, fdat, h4, h5, h6, h7⟩ := hd.fns f x hx
    exact ⟨fa, fdat, _, h4, h5.kp, h6, ⟨fun vs H Q E h => (by obtain ⟨ss, F, q, _⟩ := h; exact q), fun A outer s H args us vs Q E hr he hb hv hs => by obtain ⟨ss, F, _, _, q⟩ := hs; exact q.elim⟩, fun ss z => absurd rfl z, look h5, t, fd, h1, h2, rfl⟩
  | succ n ih =>
    intro f x hx
    obtain ⟨t, fd, h1, h2, h3, fa, fdat, h4, h5, h6, h7⟩ := hd.fns f x hx
    unfold chkD at h3
    simp only [Bool.and_eq_true, decide_eq_true_eq] at h3
    obtain ⟨⟨k1, k2⟩, k3⟩ := h3
    obtain ⟨S, le⟩ := scopeB_ok k1
    have lps : (t.N.take fd.np).length = fd.np := by rw [List.length_take, Nat.min_eq_left le]
    refine ⟨fa, fdat, t.N.take fd.np, h4, h5.kp, h6, ?_, fun ss z => ?_, look h5, t, fd, h1, h2, rfl⟩
    · obtain ⟨oc, od, dV, kV, doc, pm, an, cdv, ct, osl, rfl, lk, hcd, _, _⟩ := h5.ex
      refine fn_of (k := 3 * n + 7) lk hcd S (fun vs H Q E h => by obtain ⟨ss, F, q, _⟩ := h; exact q) fun A outer s H vs Q E hr hsp => ?_
      obtain ⟨ss, F, hlen, g, hG⟩ := hsp
      have lv : vs.length ≤ t.N.length := by rw [hlen, lps]; exact le
      obtain ⟨sN, hσ⟩ := start_at (N := t.N) lv
      have sl : ss.length = vs.length := by rw [g.len, List.length_map]
      have lf : ss.length = fd.np := by rw [sl, hlen, lps]
      have hr5 : Room (3 * n + 5) _ := hr.mono (by omega)
      have SC : SCtx (w.at t.lam) T cls (fun c d _ H => E c d H) (runF prog C L n) C (3 * n) (cxOf (L2N.CX P w0) P w0 K mg base t.N x t.scope fa cdv A outer s H E) := by
        refine ⟨⟨S.nd, hr5, rfl, L2N.takes_of rfl rfl rfl rfl, fun f x h => (by obtain ⟨fa, fd, ps, y1, y2, y3, y4, y5, _⟩ := ih f x h; exact ⟨fa, fd, ps, y1, y2, y3, y4, y5⟩), hd.cons, hd.clen, hd.free, hd.gcd, hd.kl, fun hl x' cs lp p pos t' z1 z2 z3 => ?_⟩, fun y hy => ⟨locB_ok hy, .inl rfl⟩, passes_of rfl, fun k z hk p te pos p2 he hp hg hdb => ?_⟩
        · obtain ⟨c, Pt, hc, TB, hm, hu⟩ := h7 hl
          obtain ⟨pg, g0, R, B1, B2, B3, n1, n2, n3, cs0, sg, q, fd0, TK⟩ := hd.told ⟨f, t, h1, hl⟩
          have TK2 : ToldKok (w.at t.lam) cls K mg pg g0 R B1 B2 B3 n1 n2 n3 cs0 sg q fd0 := ⟨TK.F, TK.mg0, TK.bd, TK.S, TK.lc, TK.le, TK.ls, TK.gi, TK.gR, TK.g1, TK.g2, TK.g3, TK.mi, TK.mR, TK.m1, TK.m2, TK.m3, TK.d1, TK.d2, TK.d3, TK.bk, TK.lw, TK.li, TK.sm, TK.hl, TK.cl⟩
          have hc2 : cdv = .ref c := hc
          exact pe_told (X := cxOf (L2N.CX P w0) P w0 K mg base t.N x t.scope fa cdv A outer s H E) (w := w.at t.lam) (k := 3 * n + 5) TK2 TB hc2 hm hu hr (lamS_by z1) z2 z3
        · obtain ⟨fI, fdI, F1, bI, tI, hx0⟩ := hd.init
          obtain ⟨m1, m2, m3, m4⟩ := hx0 k z hk
          exact mk_what m2 m3 tI m4 F1 (hr5.mono (by omega)) bI hg m1 he hdb hp
      refine ⟨_, (sndp_all fd.body).all (L := L) SC t.body k3, ss ++ List.replicate (fd.ns - fd.np) Slot.emp, F, fr_agr (m := fd.ns - fd.np) g hσ (by rw [sN, lf, k2]; omega), ?_⟩
      have hG : GoodF K T cls E (match execS (runF prog C L n) C L fd.body (ss ++ List.replicate (fd.ns - fd.np) .emp) with
        | .next e => .ok (.none, .val) (outs ss e)
        | .ret x e => (match x.2.isBr with
          | true => .stuck
          | false => .ok x (outs ss e))
        | .exc c d e => .exc c d (outs ss e)
        | _ => .stuck) ss (vs.map some) F H Q := by
        have e : runF prog C L (n + 1) f ss = _ := rfl
        have e2 : runF prog C L (n + 1) f ss = (match prog[f]? with
          | some fd => if ss.length = fd.np then (match execS (runF prog C L n) C L fd.body (ss ++ List.replicate (fd.ns - fd.np) .emp) with
            | .next e => .ok (.none, .val) (outs ss e)
            | .ret x e => (match x.2.isBr with
              | true => .stuck
              | false => .ok x (outs ss e))
            | .exc c d e => .exc c d (outs ss e)
            | _ => .stuck) else .stuck
          | none => .stuck) := rfl
        rw [e2, h2] at hG
        simp only [if_pos lf] at hG
        exact hG
      cases r : execS (runF prog C L n) C L fd.body (ss ++ List.replicate (fd.ns - fd.np) .emp) with
      | stuck => rw [r] at hG; exact hG.elim
      | brk e => rw [r] at hG; exact hG.elim
      | cont e => rw [r] at hG; exact hG.elim
      | next e =>
        rw [r] at hG
        exact fun F' H' σ' s1 => hG F' H' .non (fr_exit g hσ s1).1 .non
      | exc c d e =>
        rw [r] at hG
        exact fun F' H' σ' dx v s1 z1 z2 => hG F' H' dx v (fr_exit g hσ s1).1 z1 z2
      | ret y e =>
        rw [r] at hG
        cases nb : y.2.isBr with
        | true => simp only [nb] at hG; exact hG.elim
        | false =>
          simp only [nb] at hG
          exact fun F' H' σ' v s1 r1 => hG F' H' v (fr_exit g hσ s1).1 (fr_res g hσ s1 r1 nb)
    · rw [lps]
      by_cases hl : ss.length = fd.np
      · exact hl
      · refine absurd ?_ z
        show (match prog[f]? with | some fd => _ | none => _) = _
        rw [h2]
        exact if_neg hl
end
end TI

set_option Elab.async false
set_option autoImplicit false
set_option maxRecDepth 100000
set_option maxHeartbeats 4000000
set_option linter.all false
/-! TI36: what is looked at behind a law's top, and the law's end. -/
namespace TI
open PySem PySem.Spec PyProof.Rows L2 LamX
/-! ### what is looked at -/
theorem oexB_ok {K : PySem.W.Frag} {C : Addr} (h : oexB K C = true) : ∃ nm q N bs bm sn sub ab col dd k0 k1 k2 k3 k5, K.lookup C = some (excClassObj nm q C N bs bm true sn sub ab col dd k0 k1 k2 k3 k5 "ValueError.__new__") ∧ PySem.HandSPX.refsVE bm = true := by
  unfold oexB at h
  split at h
  · rename_i t dd cd sl ho
    obtain ⟨h0, g⟩ := Bool.and_eq_true_iff.mp h
    clear h
    have h0 := of_decide_eq_true h0
    subst h0
    split at g
    · rename_i C' bm k0 k1 k2 k3 n k5 hm hs
      simp only [Bool.and_eq_true, beq_iff_eq, decide_eq_true_eq, Bool.not_eq_true'] at g
      obtain ⟨⟨⟨⟨e1, e2⟩, hdel⟩, hdi⟩, hr⟩ := g
      subst e1 e2
      obtain ⟨nm, bs, mro, ns, qn, hd, sn, sub, ab, col, del⟩ := cd
      have hm : mro = .ref C' :: bm := hm
      have hdel : del = false := hdel
      have hdi : hd = true := hdi
      subst hm
      subst hdel
      subst hdi
      obtain ⟨l⟩ := sl
      simp only at hs
      subst hs
      exact ⟨nm, qn, ns, bs, bm, sn, sub, ab, col, dd, k0, k1, k2, k3, k5, ho, hr⟩
    · cases g
  · cases h
theorem eqInts_ok {K : PySem.W.Frag} : ∀ {us : List Value} {ds : List D}, eqInts us ds = true → ∃ vs, Vals vs us ∧ ∀ F, DpAll K F vs ds := by
  intro us
  induction us with
  | nil =>
    intro ds h
    cases ds with
    | nil => exact ⟨[], .nil, fun _ => .nil⟩
    | cons d ds => cases h
  | cons u us ih =>
    intro ds h
    cases ds with
    | nil => cases u <;> cases h
    | cons d ds =>
      cases u <;> cases d <;> first | (cases h; done) | skip
      obtain ⟨h1, h2⟩ := Bool.and_eq_true_iff.mp h
      have h1 := of_decide_eq_true h1
      subst h1
      obtain ⟨vs, e1, e2⟩ := ih h2
      exact ⟨.int _ :: vs, .cons ⟨_, rfl⟩ e1, fun F => .cons (.int _) (e2 F)⟩
theorem relD_ok {K : PySem.W.Frag} {u : Value} {d : D} (h : relD K u d = true) : ∃ v, RelV v u ∧ ∀ F, Dp K F v d := by
  unfold relD at h
  split at h
  · have h1 := of_decide_eq_true h
    subst h1
    exact ⟨.int _, ⟨_, rfl⟩, fun F => .int _⟩
  · split at h
    · rename_i t dd its n sl ho
      obtain ⟨h1, h2⟩ := Bool.and_eq_true_iff.mp h
      obtain ⟨h2, h3⟩ := Bool.and_eq_true_iff.mp h2
      have h1 := of_decide_eq_true h1
      subst h1
      obtain ⟨vs, e1, e2⟩ := eqInts_ok (K := K) h3
      exact ⟨.ref _, rfl, fun F => .tup (.inr ⟨_, its, n, ho, rfl, rfl, of_decide_eq_true h2, e1⟩) (e2 F)⟩
    · cases h
  · cases h
theorem excB_ok {K : PySem.W.Frag} {h : Heap} {mg : Str → Option Value} (X : K.In h) (G : h.Ns mainGlobals mg) {z : Str} (c : excB K z = true) : mg z = some (.ref (He.ga K z)) ∧ OexC K (He.ga K z) ∧ PySem.W.findIn K (.ref (He.ga K z)) "__init__" = some (some (.ref (He.ma K (He.ga K "Refused") "__init__"))) ∧ PySem.W.findIn K (.ref (He.ga K z)) "what" = some none := by
  obtain ⟨c1, c⟩ := He.ba c
  obtain ⟨c2, c⟩ := He.ba c
  obtain ⟨c3, c⟩ := He.ba c
  obtain ⟨c4, c⟩ := He.ba c
  obtain ⟨c5, c⟩ := He.ba c
  obtain ⟨c6, c⟩ := He.ba c
  obtain ⟨c7, c8⟩ := He.ba c
  exact ⟨He.glo_ok X G c1, ⟨oexB_ok c2, He.eqO_ok c3, of_decide_eq_true c4, of_decide_eq_true c5, c6⟩, He.eqO_ok c7, He.eqO_ok c8⟩
theorem kitB_ok {K : PySem.W.Frag} {C B : Addr} (h : (PySem.W.kitOne K (.ref C) (.ref B)).isSome = true) : PySem.W.kitOne K (.ref C) (.ref B) = some (kitB K C B) := by
  unfold kitB
  cases e : PySem.W.kitOne K (.ref C) (.ref B) with
  | none => rw [e] at h; cases h
  | some b => cases b <;> rfl
theorem xfcB_ok {L : LawT} {K : PySem.W.Frag} {C : Addr} {z : Str} (c : xfcB L K C z = true) : ∃ b1 b2 b3, XFacts K C (He.ga K "Refused") (He.ga K L.n1) (He.ga K L.n2) (He.ga K L.n3) b1 b2 b3 ∧ Txt.join " " (saidBy [(L.n1, b1), (L.n2, b2), (L.n3, b3)]) = z := by
  obtain ⟨c1, c⟩ := He.ba c
  obtain ⟨c2, c⟩ := He.ba c
  obtain ⟨c3, c⟩ := He.ba c
  obtain ⟨c4, c⟩ := He.ba c
  obtain ⟨c5, c⟩ := He.ba c
  obtain ⟨c6, c⟩ := He.ba c
  obtain ⟨c7, c⟩ := He.ba c
  obtain ⟨c8, c⟩ := He.ba c
  obtain ⟨c9, c⟩ := He.ba c
  obtain ⟨d1, c⟩ := He.ba c
  obtain ⟨d2, d3⟩ := He.ba c
  exact ⟨_, _, _, ⟨of_decide_eq_true c1, kitB_ok c2, kitB_ok c3, kitB_ok c4, c5, xfB_ok c6, He.eqO_ok c7, He.eqO_ok c8, of_decide_eq_true c9, of_decide_eq_true d1, He.eqO_ok d2⟩, of_decide_eq_true d3⟩
structure SaysL (L : LawT) (h : Heap) (K : PySem.W.Frag) : Prop where
  ok : headB L K = true
  fns : ∀ d ∈ L.rows, He.fnW K d.at_ = d.val
  emp : ∀ p ∈ L.lams, h.get? (He.cT K p).2 = some { cls := .none, data := .fields #[] }
def hookL (L : LawT) : PySem.W.Hook where
  α := ObL
  obs := fun s => obsL L s.heap.get?
  val := fun _ => (true, L.rows.map He.DefD.val)
  says := fun _ h => ∃ K : PySem.W.Frag, K.In h ∧ SaysL L h K
  of := fun w s e => by
    have e : obsL L s.heap.get? = (true, L.rows.map He.DefD.val) := e
    have e1 : (headB L (He.frG s.heap.get? (asM s.heap.get?)) && emptyAll L s.heap.get? (He.frG s.heap.get? (asM s.heap.get?))) = true := congrArg Prod.fst e
    have e2 : L.rows.map (fun d => He.fnW (He.frG s.heap.get? (asM s.heap.get?)) d.at_) = L.rows.map He.DefD.val := congrArg Prod.snd e
    obtain ⟨h1, h2⟩ := He.ba e1
    refine ⟨_, He.frG_in, h1, fun d hd => ?_, fun p hp => ?_⟩
    · exact List.map_inj_left.mp e2 d hd
    · have h3 := List.all_eq_true.mp h2 p hp
      cases q : s.heap.get? (He.cT (He.frG s.heap.get? (asM s.heap.get?)) p).2 with
      | none => rw [q] at h3; cases h3
      | some o => rw [q] at h3; rw [He.emptyTab_eq h3]
  keeps := fun _ _ _ ⟨K, hK, c⟩ k => ⟨K, PySem.W.Frag.In.keeps hK k, ⟨c.ok, c.fns, fun p hp => k _ _ (c.emp p hp)⟩⟩
theorem obsL_eq {L : LawT} {g : Addr → Option Obj} {s : Shared} (h : ∀ a, g a = s.heap.get? a) : obsL L g = (hookL L).obs s := by
  have e : g = s.heap.get? := funext h
  rw [e] <;> rfl
end TI

set_option Elab.async false
set_option autoImplicit false
set_option maxRecDepth 100000
set_option maxHeartbeats 4000000
set_option linter.all false
/-! TI37: from what is looked at to the law's promise. -/
namespace TI
open PySem PySem.Spec PyProof.Rows L2 LamX
/-- how a def's arguments bind -/
def BindT (x q : Str) (pa : Arguments) (bd : List Stmt) (sc : Scope) (ps : List Str) : Prop := ∀ (kV doc pm : Value) (an : Option Addr) (cdv ct : Value) (us : List Value), us.length = ps.length → bindArgs (PySem.W.fnOf x q pa bd sc .none kV doc pm an cdv ct) ⟨us, []⟩ = Pure.pure (ps.zip us)
def Binding (t : DefT) (fd : FD) : Prop := BindT t.name t.name t.params t.body t.scope (t.N.take fd.np)
def AllBind : List DefT → List FD → Prop
  | [], [] => True
  | t :: ts, fd :: fds => Binding t fd ∧ AllBind ts fds
  | _, _ => False
def chkAll (w : Nm) : List DefT → List FD → Bool
  | [], [] => true
  | t :: ts, fd :: fds => chkD w t fd && chkAll w ts fds
  | _, _ => false
theorem all_at {w : Nm} : ∀ {ts : List DefT} {fds : List FD}, chkAll w ts fds = true → AllBind ts fds → ∀ (f : Nat) (x : Str), (ts.map DefT.name)[f]? = some x → ∃ t fd, ts[f]? = some t ∧ fds[f]? = some fd ∧ t.name = x ∧ chkD w t fd = true ∧ Binding t fd
  | [], _, _, _, f, x, h => by simp at h
  | t :: ts, [], hc, _, f, x, h => by cases hc
  | t :: ts, fd :: fds, hc, hb, 0, x, h => by
    simp at h
    exact ⟨t, fd, rfl, rfl, h, (Bool.and_eq_true_iff.mp hc).1, hb.1⟩
  | t :: ts, fd :: fds, hc, hb, f + 1, x, h => by
    obtain ⟨u, gd, h1, h2, h3, h4, h5⟩ := all_at (f := f) (x := x) (Bool.and_eq_true_iff.mp hc).2 hb.2 (by simpa using h)
    exact ⟨u, gd, by simpa using h1, by simpa using h2, h3, h4, h5⟩
def gloB (sc : Scope) (x : Str) : Bool := decide (sc.names.lookup x = some .globalImplicit)
def locOnly (sc : Scope) (x : Str) : Bool := decide (sc.names.lookup x = some .local)
/-- the texts of _law_told_by and of __init__ -/
def toldB (L : LawT) : Bool := scopeB toldN 1 L.sg && (locOnly L.sg "call" && (locOnly L.sg "e" && (locOnly L.sg "some" && (gloB L.sg "isinstance" && (gloB L.sg "Refused" && (gloB L.sg L.n1 && (gloB L.sg L.n2 && (gloB L.sg L.n3 && (blkC toldN L.sg L.cs [("word", 3), ("is_one", 4)] &&
  (locB L.cs "word" && (locB L.cs "is_one" && (decide (L.n1.length + L.n2.length + L.n3.length ≤ 1000) && (((L.q 27).endLine == (L.q 35).line) && (scopeB ["self", "what"] 2 L.inS && (locOnly L.inS "self" && (locOnly L.inS "what" && (!(L.n1 == ("__debug__" : Str)) && (!(L.n2 == ("__debug__" : Str)) && !(L.n3 == ("__debug__" : Str))))))))))))))))))))
theorem lookup_mem {α β : Type} [BEq α] [LawfulBEq α] {a : α} {b : β} : ∀ {l : List (α × β)}, l.lookup a = some b → (a, b) ∈ l
  | [], h => by cases h
  | (c, d) :: r, h => by
    rw [List.lookup_cons] at h
    split at h
    · rename_i e
      cases h
      rw [beq_iff_eq.mp e]
      exact List.mem_cons_self
    · exact List.mem_cons_of_mem _ (lookup_mem h)
/-- the tables, by their names -/
def LawT.tabs (L : LawT) (K : PySem.W.Frag) : List (Addr × Str) := L.lams.map fun p => ((He.cT K p).2, lamName p.1)
section
variable {L : LawT} {P : Program} {w0 : World} {K : PySem.W.Frag} {mg : Str → Option Value} {h base : Heap}
theorem funD_of (c : SaysL L h K) {d : He.DefD} (hd : d ∈ L.rows) : ∃ fd, FunD K d.name d.qual d.params d.body d.scope (d.dvs K) (d.kws K) (He.fAd K d.at_) fd :=
  He.DefD.funD (c.fns d hd) (List.all_eq_true.mp (He.ba c.ok).1 d hd)
theorem head_of (X : K.In h) (G : h.Ns mainGlobals mg) (c : SaysL L h K) (ck : chkAll L.w L.fs L.pr = true) (bd : AllBind L.fs L.pr) (tb : toldB L = true) (bt : BindT "_law_told_by" "_law_told_by" L.pg (toldBody L.n1 L.n2 L.n3 L.cs L.q) L.sg ["call"])
    (bi : BindT "__init__" "Refused.__init__" L.inA (initBody L.ini.1 L.ini.2.1 L.ini.2.2.1 L.ini.2.2.2) L.inS ["self", "what"]) (T : ∀ p ∈ L.lams.map (He.cT K), TabB base mg p.1 p.2) : Head P w0 K mg base L.w (L.cls K) L.C (L.tabs K) L.fs L.pr := by
  obtain ⟨c1, d⟩ := He.ba c.ok
  obtain ⟨c2, d⟩ := He.ba d
  obtain ⟨c3, d⟩ := He.ba d
  obtain ⟨c4, d⟩ := He.ba d
  obtain ⟨c5, d⟩ := He.ba d
  obtain ⟨c6, d⟩ := He.ba d
  obtain ⟨c7, d⟩ := He.ba d
  obtain ⟨c8, d⟩ := He.ba d
  obtain ⟨c9, d⟩ := He.ba d
  obtain ⟨c10, d⟩ := He.ba d
  obtain ⟨c11, d⟩ := He.ba d
  obtain ⟨c12, d⟩ := He.ba d
  obtain ⟨c13, d⟩ := He.ba d
  obtain ⟨c14, d⟩ := He.ba d
  obtain ⟨c15, c16⟩ := He.ba d
  unfold toldB at tb
  simp only [Bool.and_eq_true, gloB, locOnly, decide_eq_true_eq, Bool.not_eq_true'] at tb
  obtain ⟨t1, t2, t3, t4, t5, t6, t7, t8, t9, t10, t11, t12, t13, t14, t15, t16, t17, t18, t19, t20⟩ := tb
  have fr : ∀ x ∈ bltN, mg x = none := fun x hx => He.free_ok X G (List.all_eq_true.mp c8 x hx)
  have memF : ∀ t ∈ L.fs, LawT.toRow t ∈ L.rows := fun t ht => List.mem_cons_of_mem _ (List.mem_cons_of_mem _ (List.mem_map.mpr ⟨t, ht, rfl⟩))
  refine ⟨fun f x hx => ?_, fun i x d h1 h2 => ?_, by rw [LawT.w, LawT.C, List.length_map, List.length_map], fr, PySem.W.mg_of X G (He.eqO_ok c9), fun a o ha hc => ?_, ?_, fun _ => ?_⟩
  · obtain ⟨t, fd, h1, h2, h3, h4, h5⟩ := all_at ck bd f x hx
    have ht : t ∈ L.fs := List.mem_of_getElem? h1
    obtain ⟨fdat, F⟩ := funD_of c (memF t ht)
    have F : FunD K t.name t.name t.params t.body t.scope [] [] (He.ga K t.name) fdat := F
    subst h3
    refine ⟨t, fd, h1, h2, h4, He.ga K t.name, fdat, He.glo_ok X G (List.all_eq_true.mp c2 t ht), F, F.bindsN h5, fun hl => ?_⟩
    have hp : ((t.name, none) : He.Defn) ∈ L.lams := List.mem_map.mpr ⟨t, List.mem_filter.mpr ⟨ht, hl⟩, rfl⟩
    obtain ⟨oc, od, dV, kV, doc, pm, an, cdv, ct, osl, rfl, lk, hcd, _, _⟩ := F.ex
    obtain ⟨cc, hcc⟩ := He.codeIn_ref hcd
    have e0 : He.codeOf K (t.name, none) = cc := He.codeOf_eq (p := (t.name, none)) lk hcc
    refine ⟨cc, (He.cT K (t.name, none)).2, hcc, ?_, List.mem_map.mpr ⟨_, hp, rfl⟩, fun p hpT e => ?_⟩
    · have := T _ (List.mem_map.mpr ⟨_, hp, rfl⟩)
      have e1 : (He.cT K (t.name, none)).1 = cc := e0
      rw [e1] at this
      exact this
    · obtain ⟨p', hp', rfl⟩ := List.mem_map.mp hpT
      have z := List.all_eq_true.mp (List.all_eq_true.mp c16 p' hp') _ hp
      rcases Bool.or_eq_true_iff.mp z with z | z
      · have ez := of_decide_eq_true z
        rw [ez]
      · have e : (He.cT K p').2 = (He.cT K (t.name, none)).2 := e
        rw [e] at z
        simp at z
  · have e1 : (L.cn.map (·.1))[i]? = some x := h1
    have e2 : (L.cn.map (·.2))[i]? = some d := h2
    rw [List.getElem?_map] at e1 e2
    cases hp : L.cn[i]? with
    | none => rw [hp] at e1; cases e1
    | some p =>
      rw [hp] at e1 e2
      cases e1
      cases e2
      have z := List.all_eq_true.mp c7 p (List.mem_of_getElem? hp)
      cases hn : PySem.W.nsIn K mainGlobals p.1 with
      | none => rw [hn] at z; cases z
      | some o =>
        cases o with
        | none => rw [hn] at z; cases z
        | some u =>
          rw [hn] at z
          obtain ⟨v, r, k⟩ := relD_ok z
          exact ⟨u, v, PySem.W.mg_of X G hn, r, k⟩
  · have z := List.all_eq_true.mp c10 (a, o) (He.lookup_mem ha)
    have z : (!(o.cls == .type "list") || o.slots.isEmpty) = true := z
    rw [hc] at z
    simpa using z
  · obtain ⟨fd, F⟩ := funD_of c (d := L.iniRow) List.mem_cons_self
    have F : FunD K "__init__" "Refused.__init__" L.inA (initBody L.ini.1 L.ini.2.1 L.ini.2.2.1 L.ini.2.2.2) L.inS [] [] (He.ma K (He.ga K "Refused") "__init__") fd := F
    refine ⟨_, fd, ok_init F (scopeB_ok t15).1 t16 t17, F.bindsN bi, of_decide_eq_true c11, fun k z hk => ?_⟩
    have e : L.cls K k = He.ga K z := by
      unfold LawT.cls
      rw [List.getD_eq_getElem?_getD, show L.xn[k]? = some z from hk]
      rfl
    rw [e]
    exact excB_ok X G (List.all_eq_true.mp c4 z (List.mem_of_getElem? hk))
  · obtain ⟨fd, F⟩ := funD_of c (d := L.tldRow) (List.mem_cons_of_mem _ List.mem_cons_self)
    have F : FunD K "_law_told_by" "_law_told_by" L.pg (toldBody L.n1 L.n2 L.n3 L.cs L.q) L.sg [] [] (He.ga K "_law_told_by") fd := F
    exact ⟨L.pg, _, _, _, _, _, L.n1, L.n2, L.n3, L.cs, L.sg, L.q, fd, F, He.glo_ok X G c3, F.bindsN bt, (scopeB_ok t1).1, t2, t3, t4, t5, t6, t7, t8, t9, fr _ (by decide), (excB_ok X G c5).1, He.glo_ok X G c12, He.glo_ok X G c13, He.glo_ok X G c14, t18, t19, t20, t10, t11, t12, t13, t14,
      fun k z hk => xfcB_ok (List.all_eq_true.mp c6 (k, z) (lookup_mem hk))⟩
/-- the law's promise -/
theorem law_at {l : PySem.W.OpenLaw} {n N : Nat} {x : Str} {fa : Addr} (X : K.In h) (G : h.Ns mainGlobals mg) (c : SaysL L h K) (ck : chkAll L.w L.fs L.pr = true) (bd : AllBind L.fs L.pr) (tb : toldB L = true) (bt : BindT "_law_told_by" "_law_told_by" L.pg (toldBody L.n1 L.n2 L.n3 L.cs L.q) L.sg ["call"])
    (bi : BindT "__init__" "Refused.__init__" L.inA (initBody L.ini.1 L.ini.2.1 L.ini.2.2.1 L.ini.2.2.2) L.inS ["self", "what"]) (hx : (L.fs.map DefT.name)[L.cal]? = some x) (hfa : mg x = some (.ref fa)) (hp : ∃ t fd, L.fs[L.cal]? = some t ∧ L.pr[L.cal]? = some fd ∧ t.N.take fd.np = [("script" : Str)])
    (law : ∀ ns : List Int, ns.length ≤ n → (∀ z ∈ ns, Builtin.Int.intBits z ≤ 1048576) → ∃ m fl e, runF L.pr L.C m N L.cal [.val (.list (ns.map .int))] = .ok (.bool true, fl) e) : LawAtS l w0 K (L2N.CX l.prog w0) (3 * N + 5) n "script" mg fa h := by
  obtain ⟨t, fd, h1, h2, h3, h4, h5⟩ := all_at ck bd L.cal x hx
  have ht : t ∈ L.fs := List.mem_of_getElem? h1
  have memF : LawT.toRow t ∈ L.rows := List.mem_cons_of_mem _ (List.mem_cons_of_mem _ (List.mem_map.mpr ⟨t, ht, rfl⟩))
  obtain ⟨fdat, F⟩ := funD_of c memF
  have F : FunD K t.name t.name t.params t.body t.scope [] [] (He.ga K t.name) fdat := F
  obtain ⟨t', fd', e1, e2, e3⟩ := hp
  rw [h1] at e1
  rw [h2] at e2
  cases e1
  cases e2
  subst h3
  have gg := He.glo_ok X G (List.all_eq_true.mp (He.ba (He.ba c.ok).2).1 t ht)
  rw [hfa] at gg
  cases gg
  have h5 : BindT t.name t.name t.params t.body t.scope [("script" : Str)] := by
    unfold Binding at h5
    rw [e3] at h5
    exact h5
  have okT := He.ba (He.ba (He.ba (He.ba (He.ba (He.ba (He.ba (He.ba (He.ba (He.ba (He.ba (He.ba (He.ba (He.ba (He.ba c.ok).2).2).2).2).2).2).2).2).2).2).2).2).2).2
  refine ⟨fdat, L.lams.map (He.cT K), fun vs H Q E => ∃ m, spF K (L.tabs K) (L.cls K) (runF L.pr L.C m N) L.cal 1 vs H Q E, fun p hp => ?_, fun p hp => ?_, fun p hp => ?_, fun s u => F.bindsA h5 s [u] rfl, fun H a ns hl hb hT hS => ?_, fun base KX2 G2 TB => ?_⟩
  · obtain ⟨p', hp', rfl⟩ := List.mem_map.mp hp
    exact c.emp p' hp'
  · obtain ⟨p', hp', rfl⟩ := List.mem_map.mp hp
    exact Option.isNone_iff_eq_none.mp (He.ba (List.all_eq_true.mp okT.1 p' hp')).2
  · obtain ⟨p', hp', rfl⟩ := List.mem_map.mp hp
    exact PySem.W.codeHd_of_K X (He.ba (List.all_eq_true.mp okT.1 p' hp')).1
  · obtain ⟨m, fl, e, hr⟩ := law ns hl hb
    refine ⟨m, [.val (.list (ns.map .int))], fun b => if b = a then (match H a with | some (.tbl _) => none | o => o) else none, rfl, ⟨rfl, fun i s hs => ?_, fun i j s t xs ys q1 _ q3 => ?_, fun b o q => ?_, fun b ps q => ?_, ⟨fun p hp => ?_⟩⟩, ?_⟩
    · cases i with
      | succ i => simp at hs
      | zero =>
        simp at hs
        subst hs
        refine ⟨_, rfl, .ref a, rfl, .lst ?_ DpAll.ints⟩
        rcases hS with (z | ⟨o, z⟩) | z
        · exact .inl (.inl (by simp only [if_true]; rw [z]))
        · exact .inl (.inr ⟨o, by simp only [if_true]; rw [z]⟩)
        · exact .inr z
    · cases i with
      | succ i => simp at q1
      | zero => simp at q1; subst q1; cases q3
    · by_cases hb2 : b = a
      · subst hb2
        simp only [if_true] at q
        split at q
        · cases q
        · exact q
      · rw [if_neg hb2] at q
        cases q
    · by_cases hb2 : b = a
      · subst hb2
        simp only [if_true] at q
        split at q
        · cases q
        · rename_i hn
          exact hn ps q
      · rw [if_neg hb2] at q
        cases q
    · obtain ⟨p', hp', rfl⟩ := List.mem_map.mp hp
      exact TabS.nil (hT _ (List.mem_map.mpr ⟨p', hp', rfl⟩))
    · rw [hr]
      intro F' H' v _ r
      cases fl with
      | val => cases r; rfl
      | xt => cases r.1; rfl
      | x1 => cases r.1; rfl
      | fr => obtain ⟨xs, _, _, z, _⟩ := r; cases z
      | br i => obtain ⟨xs, _, _, z, _⟩ := r; cases z
  · have HD := fun m => fn_ok (L := m) (head_of (P := l.prog) (w0 := w0) (base := base) X G c ck bd tb bt bi TB) N L.cal t.name hx
    refine ⟨fun vs H Q E h => ?_, fun A outer s H args us vs Q E hr he hb hv hs => ?_⟩
    · obtain ⟨m, ss, F0, q, _⟩ := h
      exact q
    · obtain ⟨m, hs⟩ := hs
      obtain ⟨fa2, fd2, ps, q1, q2, q3, q4, q5, ⟨o, q6, q7⟩, t2, fd3, q8, q9, q10⟩ := HD m
      rw [h1] at q8
      rw [h2] at q9
      cases q8
      cases q9
      rw [e3] at q10
      subst q10
      rw [hfa] at q1
      cases q1
      obtain ⟨o2, z1, z2⟩ := look F
      rw [q6] at z1
      cases z1
      rw [q7] at z2
      cases z2
      exact q4.run A outer s H args us vs Q E hr he hb hv hs
end
end TI

set_option Elab.async false
set_option autoImplicit false
set_option maxRecDepth 100000
set_option maxHeartbeats 0
set_option linter.all false
namespace TI
open PySem PySem.Spec PyProof.Rows L2
theorem ckk : chkAll (LT prog).w ts prog = true := by kernel_rfl
theorem bdd : AllBind ts prog := by
  show AllBind (_ :: _) (_ :: _)
  exact ⟨fun _ _ _ _ _ _ us hl => match us, hl with | [_], _ => rfl, ⟨fun _ _ _ _ _ _ us hl => match us, hl with | [_, _, _], _ => rfl, ⟨fun _ _ _ _ _ _ us hl => match us, hl with | [_, _, _], _ => rfl, ⟨fun _ _ _ _ _ _ us hl => match us, hl with | [_, _, _], _ => rfl, ⟨fun _ _ _ _ _ _ us hl => match us, hl with | [_, _], _ => rfl, ⟨fun _ _ _ _ _ _ us hl => match us, hl with | [_], _ => rfl, ⟨fun _ _ _ _ _ _ us hl => match us, hl with | [_], _ => rfl, ⟨fun _ _ _ _ _ _ us hl => match us, hl with | [_], _ => rfl, ⟨fun _ _ _ _ _ _ us hl => match us, hl with | [_], _ => rfl, ⟨fun _ _ _ _ _ _ us hl => match us, hl with | [_], _ => rfl, ⟨fun _ _ _ _ _ _ us hl => match us, hl with | [_], _ => rfl, ⟨fun _ _ _ _ _ _ us hl => match us, hl with | [_], _ => rfl, ⟨fun _ _ _ _ _ _ us hl => match us, hl with | [_, _], _ => rfl, ⟨fun _ _ _ _ _ _ us hl => match us, hl with | [_, _, _], _ => rfl, ⟨fun _ _ _ _ _ _ us hl => match us, hl with | [_, _, _], _ => rfl, ⟨fun _ _ _ _ _ _ us hl => match us, hl with | [_], _ => rfl, ⟨fun _ _ _ _ _ _ us hl => match us, hl with | [_], _ => rfl, ⟨fun _ _ _ _ _ _ us hl => match us, hl with | [_], _ => rfl, ⟨fun _ _ _ _ _ _ us hl => match us, hl with | [_, _], _ => rfl, ⟨fun _ _ _ _ _ _ us hl => match us, hl with | [_], _ => rfl, ⟨fun _ _ _ _ _ _ us hl => match us, hl with | [_], _ => rfl, ⟨fun _ _ _ _ _ _ us hl => match us, hl with | [_], _ => rfl, ⟨fun _ _ _ _ _ _ us hl => match us, hl with | [_], _ => rfl, ⟨fun _ _ _ _ _ _ us hl => match us, hl with | [_], _ => rfl, ⟨fun _ _ _ _ _ _ us hl => match us, hl with | [_, _], _ => rfl, ⟨fun _ _ _ _ _ _ us hl => match us, hl with | [_, _], _ => rfl, ⟨fun _ _ _ _ _ _ us hl => match us, hl with | [_], _ => rfl, ⟨fun _ _ _ _ _ _ us hl => match us, hl with | [_, _], _ => rfl, ⟨fun _ _ _ _ _ _ us hl => match us, hl with | [_, _], _ => rfl, ⟨fun _ _ _ _ _ _ us hl => match us, hl with | [_, _], _ => rfl, ⟨fun _ _ _ _ _ _ us hl => match us, hl with | [_, _], _ => rfl, ⟨fun _ _ _ _ _ _ us hl => match us, hl with | [_], _ => rfl, ⟨fun _ _ _ _ _ _ us hl => match us, hl with | [_], _ => rfl, ⟨fun _ _ _ _ _ _ us hl => match us, hl with | [_], _ => rfl, ⟨fun _ _ _ _ _ _ us hl => match us, hl with | [_, _], _ => rfl, ⟨fun _ _ _ _ _ _ us hl => match us, hl with | [_, _], _ => rfl, ⟨fun _ _ _ _ _ _ us hl => match us, hl with | [_, _], _ => rfl, ⟨fun _ _ _ _ _ _ us hl => match us, hl with | [_, _], _ => rfl, ⟨fun _ _ _ _ _ _ us hl => match us, hl with | [_, _], _ => rfl, ⟨fun _ _ _ _ _ _ us hl => match us, hl with | [_], _ => rfl, ⟨fun _ _ _ _ _ _ us hl => match us, hl with | [_, _], _ => rfl, ⟨fun _ _ _ _ _ _ us hl => match us, hl with | [_, _], _ => rfl, ⟨fun _ _ _ _ _ _ us hl => match us, hl with | [_, _, _, _], _ => rfl, ⟨fun _ _ _ _ _ _ us hl => match us, hl with | [_, _, _], _ => rfl, ⟨fun _ _ _ _ _ _ us hl => match us, hl with | [_, _, _, _], _ => rfl, ⟨fun _ _ _ _ _ _ us hl => match us, hl with | [_], _ => rfl, ⟨fun _ _ _ _ _ _ us hl => match us, hl with | [_], _ => rfl, ⟨fun _ _ _ _ _ _ us hl => match us, hl with | [_], _ => rfl, ⟨fun _ _ _ _ _ _ us hl => match us, hl with | [_, _], _ => rfl, ⟨fun _ _ _ _ _ _ us hl => match us, hl with | [_, _, _], _ => rfl, ⟨fun _ _ _ _ _ _ us hl => match us, hl with | [_, _], _ => rfl, ⟨fun _ _ _ _ _ _ us hl => match us, hl with | [_, _], _ => rfl, ⟨fun _ _ _ _ _ _ us hl => match us, hl with | [_, _, _], _ => rfl, ⟨fun _ _ _ _ _ _ us hl => match us, hl with | [_, _], _ => rfl, ⟨fun _ _ _ _ _ _ us hl => match us, hl with | [_, _, _], _ => rfl, ⟨fun _ _ _ _ _ _ us hl => match us, hl with | [_, _, _], _ => rfl, ⟨fun _ _ _ _ _ _ us hl => match us, hl with | [_, _], _ => rfl, ⟨fun _ _ _ _ _ _ us hl => match us, hl with | [_, _, _], _ => rfl, ⟨fun _ _ _ _ _ _ us hl => match us, hl with | [_], _ => rfl, ⟨fun _ _ _ _ _ _ us hl => match us, hl with | [_, _], _ => rfl, ⟨fun _ _ _ _ _ _ us hl => match us, hl with | [_, _, _, _], _ => rfl, ⟨fun _ _ _ _ _ _ us hl => match us, hl with | [_, _, _, _], _ => rfl, ⟨fun _ _ _ _ _ _ us hl => match us, hl with | [_, _, _], _ => rfl, ⟨fun _ _ _ _ _ _ us hl => match us, hl with | [_, _], _ => rfl, ⟨fun _ _ _ _ _ _ us hl => match us, hl with | [_, _], _ => rfl, ⟨fun _ _ _ _ _ _ us hl => match us, hl with | [_, _], _ => rfl, ⟨fun _ _ _ _ _ _ us hl => match us, hl with | [_, _], _ => rfl, ⟨fun _ _ _ _ _ _ us hl => match us, hl with | [_], _ => rfl, ⟨fun _ _ _ _ _ _ us hl => match us, hl with | [_, _], _ => rfl, ⟨fun _ _ _ _ _ _ us hl => match us, hl with | [_], _ => rfl, ⟨fun _ _ _ _ _ _ us hl => match us, hl with | [_], _ => rfl, ⟨fun _ _ _ _ _ _ us hl => match us, hl with | [_, _], _ => rfl, ⟨fun _ _ _ _ _ _ us hl => match us, hl with | [_], _ => rfl, ⟨fun _ _ _ _ _ _ us hl => match us, hl with | [_], _ => rfl, ⟨fun _ _ _ _ _ _ us hl => match us, hl with | [_, _], _ => rfl, ⟨fun _ _ _ _ _ _ us hl => match us, hl with | [_, _], _ => rfl, ⟨fun _ _ _ _ _ _ us hl => match us, hl with | [_, _, _], _ => rfl, ⟨fun _ _ _ _ _ _ us hl => match us, hl with | [_, _], _ => rfl, ⟨fun _ _ _ _ _ _ us hl => match us, hl with | [_, _, _], _ => rfl, ⟨fun _ _ _ _ _ _ us hl => match us, hl with | [_, _, _, _], _ => rfl, ⟨fun _ _ _ _ _ _ us hl => match us, hl with | [_, _, _], _ => rfl, ⟨fun _ _ _ _ _ _ us hl => match us, hl with | [_, _, _], _ => rfl, ⟨fun _ _ _ _ _ _ us hl => match us, hl with | [_, _, _], _ => rfl, ⟨fun _ _ _ _ _ _ us hl => match us, hl with | [_, _], _ => rfl, ⟨fun _ _ _ _ _ _ us hl => match us, hl with | [_, _], _ => rfl, ⟨fun _ _ _ _ _ _ us hl => match us, hl with | [_, _, _, _, _, _], _ => rfl, ⟨fun _ _ _ _ _ _ us hl => match us, hl with | [_, _, _, _, _], _ => rfl, ⟨fun _ _ _ _ _ _ us hl => match us, hl with | [_, _], _ => rfl, ⟨fun _ _ _ _ _ _ us hl => match us, hl with | [_, _], _ => rfl, ⟨fun _ _ _ _ _ _ us hl => match us, hl with | [_, _, _, _, _, _], _ => rfl, ⟨fun _ _ _ _ _ _ us hl => match us, hl with | [_], _ => rfl, trivial⟩⟩⟩⟩⟩⟩⟩⟩⟩⟩⟩⟩⟩⟩⟩⟩⟩⟩⟩⟩⟩⟩⟩⟩⟩⟩⟩⟩⟩⟩⟩⟩⟩⟩⟩⟩⟩⟩⟩⟩⟩⟩⟩⟩⟩⟩⟩⟩⟩⟩⟩⟩⟩⟩⟩⟩⟩⟩⟩⟩⟩⟩⟩⟩⟩⟩⟩⟩⟩⟩⟩⟩⟩⟩⟩⟩⟩⟩⟩⟩⟩⟩⟩⟩⟩⟩⟩⟩⟩⟩⟩
theorem tbb : toldB (LT prog) = true := by kernel_rfl
theorem btt : BindT "_law_told_by" "_law_told_by" (LT prog).pg (toldBody (LT prog).n1 (LT prog).n2 (LT prog).n3 (LT prog).cs (LT prog).q) (LT prog).sg ["call"] := fun _ _ _ _ _ _ us hl => match us, hl with | [_], _ => rfl
theorem bii : BindT "__init__" "Refused.__init__" (LT prog).inA (initBody (LT prog).ini.1 (LT prog).ini.2.1 (LT prog).ini.2.2.1 (LT prog).ini.2.2.2) (LT prog).inS ["self", "what"] := fun _ _ _ _ _ _ us hl => match us, hl with | [_, _], _ => rfl
theorem comb {α β γ δ ε : Type} {o : Option α} {f : α → β} {g : α → γ} {h : α → δ × ε} {a : β} {b : γ} {c : δ} {d : ε} (h1 : o.map f = some a) (h2 : o.map g = some b) (h3 : (o.map fun x => (h x).1) = some c) (h4 : (o.map fun x => (h x).2) = some d) :
    (o.map fun x => (f x, g x, h x)) = some (a, b, c, d) := by
  cases o with
  | none => cases h1
  | some x =>
    have h1 := Option.some.inj h1
    have h2 := Option.some.inj h2
    have h3 := Option.some.inj h3
    have h4 := Option.some.inj h4
    show some (f x, g x, h x) = _
    rw [h1, h2, show h x = (c, d) from Prod.ext h3 h4]
theorem runAll (pr : List FD) (w : World) : HandSHeadRun.RunEqI Rw Vw (hookL (LT pr)) (fun s => obsL (LT pr) (HandSHeadRun.getT s)) 30000 nms w :=
  comb (runA w) (runB w) (runC pr w) (runD pr w)
end TI

set_option Elab.async false
set_option autoImplicit false
set_option maxRecDepth 100000
set_option maxHeartbeats 0
set_option linter.all false
namespace TI
open PySem PySem.Spec PyProof.Rows L2
theorem law_pure (ns : List Int) (hl : ns.length ≤ 63) (hb : ∀ z ∈ ns, Builtin.Int.intBits z ≤ 1048576) : ∃ m fl e, runF prog (LT prog).C m 12 90 [.val (.list (ns.map .int))] = .ok (.bool true, fl) e := ⟨200000, .val, [.emp], law_tree ns⟩
end TI
open PySem PySem.W PySem.Calls PyProof.Rows
theorem PySem.Challenge.cw_toldquiet_k76_dots_of_long_stretches_holds : PySem.Challenge.rw_toldquiet_k76_dots_of_long_stretches.Holds := by
  w_on; o_law
  refine HandSHeadRun.head_imp (r := TI.Rw) (q := TI.Vw) (H := TI.hookL (TI.LT TI.prog)) (ob := fun s => TI.obsL (TI.LT TI.prog) (HandSHeadRun.getT s)) (M := 30000) (loose := TI.nms) (d := HandSHeadRun.topDef TI.Rw.prog 133) (kwd := []) (fun s => TI.obsL_eq (HandSHeadRun.getT_eq s))
    (TI.runAll TI.prog) (by kernel_rfl) (by kernel_rfl) (by kernel_rfl) (by rfl) (by first | assumption | decide +kernel) (by decide +kernel) ⟨rfl, rfl, rfl, rfl, rfl, by decide +kernel⟩ ?hw ?hc
  case hw => w_witness2
  case hc =>
    refine LamX.walk_ofTsE (l := PySem.Challenge.rw_toldquiet_k76_dots_of_long_stretches) (n := 63) (k := 3 * 12 + 5) (x := "script") (CX := fun w => L2N.CX TI.Rw.prog w) rfl (by decide) (by kernel_rfl) ⟨rfl, by decide, by decide⟩ ?F ?X
    case F =>
      intro w mg fa h Y G hmg0
      obtain ⟨K, KX, c⟩ := Y
      have e : (HandSHeadRun.topDef TI.Rw.prog 133).name = ("law" : PySem.Str) := by kernel_rfl
      rw [e] at hmg0
      exact ⟨K, KX, TI.law_at (L := TI.LT TI.prog) KX G c TI.ckk TI.bdd TI.tbb TI.btt TI.bii (by kernel_rfl) hmg0 ⟨TI.t_law, TI.fd_law, by kernel_rfl, by kernel_rfl, by kernel_rfl⟩ TI.law_pure⟩
    case X =>
      rintro w H s e s' ⟨_, _, _, _, _, _, _, _, _, _, _, _, z⟩
      exact z
