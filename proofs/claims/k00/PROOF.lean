import PyProof.Rows.All
import Wide.All
import OpenK.AllK
import Wide.FinOn
import HandS.ForMost
import HandS.Exc
import HandS.TryOnly
import HandS.ExcOwn
import HandS.Wide
import HandS.TupAny
import HandS.Conv
import HandS.IsInst
import HandS.ExcField
import HandS.ExcIs
import KE.DataEq
import PyProof.ListMulRoad
import PyProof.FactsAll.tuple_2
import HandS.Base
import HandS.Call
import HandS.List
import HandS.TupMul
import HandS.Style
import HandS.Flow
import HandS.Walk
import HandS.Zip
import HandS.Rev
import HandS.RevRange
import KE.GoesMore
import HandS.SortInts
import HandS.Flt
import HandS.Defaults
import HandS.CallSlots
import HandS.HeadWalk
import HandS.OwnEq
import HandS.ExcInit
import HandS.TryMany
import HandS.HeadEnd
import HandS.HeadHook2
import KE.KStateDown
import HandS.Head0
import HandS.Head1
import HandS.Head2
import PySem.Challenge.RW_sparedproducts_k00_whole_numbers_reckone

set_option Elab.async false
set_option linter.all false
set_option maxRecDepth 100000
/-! The evaluator: values, a store of cells, compiled syntax, big steps. Plain Lean; nothing of the model but its texts' type and its data. -/
namespace Ev
open PySem (Str PyData)

/-! ### values -/
inductive PV where
  | non
  | bl (b : Bool)
  | int (i : Int)
  | str (s : Str)
  | tup (xs : List PV)
  | flst (xs : List PV)
  | obj (a : Nat)
  | ins (c : Nat) (ks : List Nat) (vs : List PV)
  deriving Inhabited

inductive Cell where
  | lst (xs : List PV)
  | ins (c : Nat) (ks : List Nat) (vs : List PV)
  | dead
  deriving Inhabited

abbrev Store := List Cell
abbrev Frame := List (Option PV)

mutual
def PV.beq : PV → PV → Bool
  | .non, .non => true
  | .bl a, .bl b => a == b
  | .int a, .int b => decide (a = b)
  | .str a, .str b => decide (a = b)
  | .tup a, .tup b => PV.beqs a b
  | .flst a, .flst b => PV.beqs a b
  | .obj a, .obj b => decide (a = b)
  | .ins c k v, .ins c' k' v' => decide (c = c') && (decide (k = k') && PV.beqs v v')
  | _, _ => false
def PV.beqs : List PV → List PV → Bool
  | [], [] => true
  | a :: as, b :: bs => PV.beq a b && PV.beqs as bs
  | _, _ => false
end
def Cell.beq : Cell → Cell → Bool
  | .lst a, .lst b => PV.beqs a b
  | .ins c k v, .ins c' k' v' => decide (c = c') && (decide (k = k') && PV.beqs v v')
  | .dead, .dead => true
  | _, _ => false
def Store.beq : Store → Store → Bool
  | [], [] => true
  | a :: as, b :: bs => Cell.beq a b && Store.beq as bs
  | _, _ => false

mutual
/-- no cell from n on is named -/
def closed (n : Nat) : PV → Bool
  | .obj a => decide (a < n)
  | .tup xs => closeds n xs
  | .flst xs => closeds n xs
  | .ins _ _ vs => closeds n vs
  | _ => true
def closeds (n : Nat) : List PV → Bool
  | [] => true
  | x :: xs => closed n x && closeds n xs
end
def closedC (n : Nat) : Cell → Bool
  | .lst xs => closeds n xs
  | .ins _ _ vs => closeds n vs
  | .dead => true

/-! ### results -/
inductive Res (α : Type) where
  | ok (a : α) (st : Store)
  | exc (c : Nat) (ks : List Nat) (vs : List PV) (st : Store)
  | stuck
def Res.bind {α β : Type} : Res α → (α → Store → Res β) → Res β
  | .ok a st, f => f a st
  | .exc c ks vs st, _ => .exc c ks vs st
  | .stuck, _ => .stuck
inductive SRes where
  | nx (fr : Frame) (st : Store)
  | rt (v : PV) (st : Store)
  | bk (fr : Frame) (st : Store)
  | ct (fr : Frame) (st : Store)
  | exc (c : Nat) (ks : List Nat) (vs : List PV) (fr : Frame) (st : Store)
  | stuck
/-- a statement's expression: its exception leaves with the frame -/
def Res.toS {α : Type} (fr : Frame) : Res α → (α → Store → SRes) → SRes
  | .ok a st, f => f a st
  | .exc c ks vs st, _ => .exc c ks vs fr st
  | .stuck, _ => .stuck
def SRes.seq : SRes → (Frame → Store → SRes) → SRes
  | .nx fr st, f => f fr st
  | r, _ => r
def opt {α : Type} (st : Store) : Option α → Res α
  | some a => .ok a st
  | none => .stuck

/-! ### syntax -/
inductive BOp where
  | add | sub | mul | mod | fdiv | pow | band | bxor | shl | shr
inductive COp where
  | eq | ne | lt | le | gt | ge | inn | notin | is | isnot
inductive Blt where
  | len | abs | int | min | max | sum | any | all | tuple | list | sorted | str | iter
inductive LM where
  | append | pop | popAt | insert | extend | index | count | remove
/-- a class that isinstance asks: a built-in one, an own one -/
inductive Ty where
  | bool | int | str | list | tuple | dict | verr | own (c : Nat)
inductive CT where
  | nm (i : Nat)
  | tp (is : List Nat)
mutual
inductive CE where
  | var (i : Nat)
  | cst (v : PV)
  | bin (o : BOp) (a b : CE)
  | neg (a : CE)
  | nt (a : CE)
  | and (a b : CE)
  | or (a b : CE)
  | cmp (o : COp) (a b : CE)
  /-- by data alone -/
  | cmpD (o : COp) (a b : CE)
  | chain (o p : COp) (a b c : CE)
  | ite (c a b : CE)
  | tup (es : List CE)
  | lst (es : List CE)
  | call (f : Nat) (es : List CE)
  /-- some arguments by keyword, some left out -/
  | callB (f : Nat) (es : List CE) (cs : List Nat) (ds : List PV)
  | make (c : Nat) (es : List CE)
  | meth (m : Nat) (o : CE) (es : List CE)
  | attr (f : Nat) (o : CE)
  | ix (a b : CE)
  | slc (l h : Bool) (a lo hi : CE)
  | rslc (a : CE)
  | blt (b : Blt) (es : List CE)
  | lm (m : LM) (o : CE) (es : List CE)
  | isin (a : CE) (ts : List Ty)
  | comp (own : List Nat) (tg : CT) (it : CI) (ifs : List CE) (elt : CE)
  | comp2 (own own2 : List Nat) (tg : CT) (it : CI) (ifs : List CE) (tg2 : CT) (it2 : CI) (ifs2 : List CE) (elt : CE)
  /-- a built-in upon a comprehension, a range, reversed(..) -/
  | bltC (b : Blt) (own : List Nat) (tg : CT) (it : CI) (ifs : List CE) (elt : CE)
  | bltI (b : Blt) (it : CI)
  /-- of the exception that the suite holds: an attribute, is it of the types -/
  | xat (f : Nat)
  | xis (ts : List Ty)
/-- what a loop walks -/
inductive CI where
  | seq (e : CE)
  | rng (es : List CE)
  | enm (e : CE)
  | zip (a b : CE)
  | rev (e : CE)
  | revr (es : List CE)
end
inductive CS where
  | expr (e : CE)
  | set (i : Nat) (e : CE)
  | setT (is : List Nat) (e : CE)
  | par (is : List Nat) (es : List CE)
  | setSub (o i e : CE)
  | parSub (o i o2 i2 e e2 : CE)
  | setAttr (o : CE) (f : Nat) (e : CE)
  | aug (i : Nat) (o : BOp) (e : CE)
  | ife (c : CE) (a b : List CS)
  | for_ (tg : CT) (it : CI) (body : List CS)
  | whl (c : CE) (body : List CS)
  | ret (e : CE)
  | retN
  | raise (c : Nat) (es : List CE)
  | try_ (body hs : List CS)
  | hnd (c : Nat) (n : Option Nat) (suite : List CS)
  | pass
  | brk
  | cnt

/-! ### what the operations give -/
def omap {α β : Type} (f : α → Option β) : List α → Option (List β)
  | [] => some []
  | x :: xs => match f x with
    | some y => (match omap f xs with
      | some ys => some (y :: ys)
      | none => none)
    | none => none
/-- a value as data -/
def toD : Nat → Store → PV → Option PyData
  | 0, _, _ => none
  | n + 1, st, v => match v with
    | .non => some .none
    | .bl b => some (.bool b)
    | .int i => some (.int i)
    | .str s => some (.str s)
    | .tup xs => (omap (toD n st) xs).map .tuple
    | .flst xs => (omap (toD n st) xs).map .list
    | .obj a => (match st[a]? with
      | some (.lst xs) => (omap (toD n st) xs).map .list
      | _ => none)
    | _ => none
def dDepth : Nat := 12
def pyEq (st : Store) (a b : PV) : Option Bool := match toD dDepth st a with
  | some d => (match toD dDepth st b with
    | some e => some (PyData.eqv d e)
    | none => none)
  | none => none
/-- the items of a list or a tuple -/
def seqOf (st : Store) : PV → Option (List PV)
  | .tup xs => some xs
  | .flst xs => some xs
  | .obj a => (match st[a]? with
    | some (.lst xs) => some xs
    | _ => none)
  | _ => none
def sizeOk (n : Nat) : Bool := decide (n ≤ 16777216)
def truth (st : Store) : PV → Option Bool
  | .non => some false
  | .bl b => some b
  | .int i => some (decide (i ≠ 0))
  | .str s => if sizeOk s.length then some (decide (s.length ≠ 0)) else none
  | .tup xs => some (!xs.isEmpty)
  | .flst xs => some (!xs.isEmpty)
  | .obj a => (match st[a]? with
    | some (.lst xs) => some (!xs.isEmpty)
    | _ => none)
  | _ => none
def mulOk (a b : Int) : Bool := decide (a.natAbs.log2 + b.natAbs.log2 < 1000000)
def divOk (b : Int) : Bool := decide (b ≠ 0) && decide (b.natAbs.log2 < 9000)
def reps {α : Type} (k : Nat) (xs : List α) : List α := (List.replicate k xs).flatten
def newL (st : Store) (xs : List PV) : Res PV := if sizeOk xs.length then .ok (.obj st.length) (st ++ [.lst xs]) else .stuck
def newT (st : Store) (xs : List PV) : Res PV := if sizeOk xs.length then .ok (.tup xs) st else .stuck
def binop : BOp → PV → PV → Store → Res PV
  | .add, .int a, .int b, st => .ok (.int (a + b)) st
  | .add, .tup a, .tup b, st => newT st (a ++ b)
  | .add, .str a, .str b, st => if sizeOk (a.length + b.length) then .ok (.str (a ++ b)) st else .stuck
  | .add, .obj a, .obj b, st => (match st[a]? with
    | some (.lst xs) => (match st[b]? with
      | some (.lst ys) => newL st (xs ++ ys)
      | _ => .stuck)
    | _ => .stuck)
  | .sub, .int a, .int b, st => .ok (.int (a - b)) st
  | .mul, .int a, .int b, st => if mulOk a b then .ok (.int (a * b)) st else .stuck
  | .mul, .obj a, .int k, st => (match st[a]? with
    | some (.lst xs) => if decide (-(2 ^ 63) ≤ k) && (decide (k < 2 ^ 63) && sizeOk (xs.length * k.toNat)) then newL st (reps k.toNat xs) else .stuck
    | _ => .stuck)
  | .mul, .tup xs, .int k, st => if decide (-(2 ^ 62) ≤ k) && (decide (k ≤ 1000) && decide (xs.length ≤ 1000)) then .ok (.tup (reps k.toNat xs)) st else .stuck
  | .mod, .int a, .int b, st => if b = 0 then .stuck else .ok (.int (a.fmod b)) st
  | .fdiv, .int a, .int b, st => if divOk b then .ok (.int (a.fdiv b)) st else .stuck
  | .pow, .int a, .int b, st => if decide (0 ≤ b) && (decide (b ≤ 1000000) && decide (a.natAbs < 2 ^ 64)) then .ok (.int (a ^ b.toNat)) st else .stuck
  | .band, .int a, .int b, st => .ok (.int (PySem.Builtin.bitAnd a b)) st
  | .bxor, .int a, .int b, st => .ok (.int (PySem.Builtin.bitXor a b)) st
  | .shl, .int a, .int b, st => if decide (0 ≤ b) && (decide (b ≤ 1000000) && decide (a.natAbs < 2 ^ 64)) then .ok (.int (a * 2 ^ b.toNat)) st else .stuck
  | .shr, .int a, .int b, st => if 0 ≤ b then .ok (.int (a / 2 ^ b.toNat)) st else .stuck
  | _, _, _, _ => .stuck
def anyEq (st : Store) (x : PV) : List PV → Option Bool
  | [] => some false
  | y :: ys => match pyEq st y x with
    | some true => some true
    | some false => anyEq st x ys
    | none => none
/-- x in ys, by data -/
def isIn (st : Store) (x c : PV) : Option Bool := match toD dDepth st x with
  | some d => (match toD dDepth st c with
    | some (.list ys) => some (ys.any fun y => PyData.eqv y d)
    | some (.tuple ys) => some (ys.any fun y => PyData.eqv y d)
    | _ => none)
  | none => none
def isNon : PV → Bool
  | .non => true
  | _ => false
def cmpop (o : COp) (a b : PV) (st : Store) : Res PV := match o with
  | .eq => (match pyEq st a b with
    | some k => .ok (.bl k) st
    | none => .stuck)
  | .ne => (match pyEq st a b with
    | some k => .ok (.bl (!k)) st
    | none => .stuck)
  | .lt => (match a, b with
    | .int i, .int j => .ok (.bl (decide (i < j))) st
    | _, _ => .stuck)
  | .le => (match a, b with
    | .int i, .int j => .ok (.bl (decide (i ≤ j))) st
    | _, _ => .stuck)
  | .gt => (match a, b with
    | .int i, .int j => .ok (.bl (decide (j < i))) st
    | _, _ => .stuck)
  | .ge => (match a, b with
    | .int i, .int j => .ok (.bl (decide (j ≤ i))) st
    | _, _ => .stuck)
  | .inn => (match isIn st a b with
    | some k => .ok (.bl k) st
    | none => .stuck)
  | .notin => (match isIn st a b with
    | some k => .ok (.bl (!k)) st
    | none => .stuck)
  | .is => (match b with
    | .non => .ok (.bl (isNon a)) st
    | .bl k => (match a with
      | .bl j => .ok (.bl (decide (j = k))) st
      | _ => .stuck)
    | _ => .stuck)
  | .isnot => (match b with
    | .non => .ok (.bl (!isNon a)) st
    | .bl k => (match a with
      | .bl j => .ok (.bl (!decide (j = k))) st
      | _ => .stuck)
    | _ => .stuck)
/-- the place that an index of any sign means -/
def ixN (n : Nat) (i : Int) : Option Nat := if 0 ≤ i then (if i < n then some i.toNat else none) else if -(n : Int) ≤ i then some (i + n).toNat else none
def atI {α : Type} (xs : List α) (i : Int) : Option α := match ixN xs.length i with
  | some j => xs[j]?
  | none => none
def index (a b : PV) (st : Store) : Res PV := match b with
  | .int i => (match a with
    | .str s => if sizeOk s.length then (match atI s.cps.toList i with
      | some c => .ok (.str ⟨#[c]⟩) st
      | none => .stuck) else .stuck
    | a => (match seqOf st a with
      | some xs => opt st (atI xs i)
      | none => .stuck))
  | _ => .stuck
def sIx (n d : Nat) : Option Int → Nat
  | none => d
  | some v => if v < 0 then (v + (n : Int)).toNat else min v.toNat n
def cutL {α : Type} (xs : List α) (lo hi : Option Int) : List α := (xs.drop (sIx xs.length 0 lo)).take (sIx xs.length xs.length hi - sIx xs.length 0 lo)
def partI (v : PV) (st : Store) : Res (Option Int) := match v with
  | .int i => .ok (some i) st
  | _ => .stuck
def slice (a : PV) (lo hi : Option Int) (st : Store) : Res PV := match a with
  | .tup xs => .ok (.tup (cutL xs lo hi)) st
  | .flst xs => newL st (cutL xs lo hi)
  | .obj b => (match st[b]? with
    | some (.lst xs) => newL st (cutL xs lo hi)
    | _ => .stuck)
  | _ => .stuck
def rslice (a : PV) (st : Store) : Res PV := match a with
  | .tup xs => .ok (.tup xs.reverse) st
  | .obj b => (match st[b]? with
    | some (.lst xs) => newL st xs.reverse
    | _ => .stuck)
  | _ => .stuck
def intsL : List PV → Option (List Int) := omap fun v => match v with
  | .int i => some i
  | _ => none
def boolsL : List PV → Option (List Bool) := omap fun v => match v with
  | .bl b => some b
  | _ => none
def lmax : List Int → Option Int
  | [] => none
  | x :: xs => some (xs.foldl max x)
def lmin : List Int → Option Int
  | [] => none
  | x :: xs => some (xs.foldl min x)
/-- sorted ints -/
def ins1 (x : Int) : List Int → List Int
  | [] => [x]
  | y :: ys => if x ≤ y then x :: y :: ys else y :: ins1 x ys
def isort : List Int → List Int
  | [] => []
  | x :: xs => ins1 x (isort xs)
/-- a built-in upon the items of a list or tuple -/
def bltL (b : Blt) (xs : List PV) (st : Store) : Res PV := match b with
  | .len => .ok (.int xs.length) st
  | .sum => (match intsL xs with
    | some ns => .ok (.int ns.sum) st
    | none => .stuck)
  | .any => (match boolsL xs with
    | some bs => .ok (.bl (bs.any id)) st
    | none => .stuck)
  | .all => (match boolsL xs with
    | some bs => .ok (.bl (bs.all id)) st
    | none => .stuck)
  | .max => (match intsL xs with
    | some ns => (match lmax ns with
      | some m => .ok (.int m) st
      | none => .stuck)
    | none => .stuck)
  | .min => (match intsL xs with
    | some ns => (match lmin ns with
      | some m => .ok (.int m) st
      | none => .stuck)
    | none => .stuck)
  | .tuple => .ok (.tup xs) st
  | .list => newL st xs
  | .sorted => (match intsL xs with
    | some ns => newL st ((isort ns).map .int)
    | none => .stuck)
  | _ => .stuck
def isTup : PV → Bool
  | .tup _ => true
  | _ => false
/-- upon a tuple -/
def bltT (b : Blt) (v : PV) (st : Store) : Res PV := match b, v with
  | _, _ => .stuck
def blt1 (b : Blt) (v : PV) (st : Store) : Res PV := match b with
  | .abs => (match v with
    | .int i => .ok (.int (if i < 0 then -i else i)) st
    | _ => .stuck)
  | .int => (match v with
    | .int i => .ok (.int i) st
    | .bl k => .ok (.int (if k then 1 else 0)) st
    | _ => .stuck)
  | .len => (match v with
    | .str s => if sizeOk s.length then .ok (.int s.length) st else .stuck
    | v => (match seqOf st v with
      | some xs => .ok (.int xs.length) st
      | none => .stuck))
  | .tuple => (match seqOf st v with
    | some xs => .ok (.tup xs) st
    | none => .stuck)
  | .list => (match seqOf st v with
    | some xs => newL st xs
    | none => .stuck)
  | b => (match isTup v with
    | true => bltT b v st
    | false => (match seqOf st v with
      | some xs => bltL b xs st
      | none => .stuck))
def blt2 (b : Blt) (v u : PV) (st : Store) : Res PV := match b, v, u with
  | .max, .int i, .int j => .ok (.int (if j > i then j else i)) st
  | .min, .int i, .int j => .ok (.int (if j < i then j else i)) st
  | _, _, _ => .stuck
def blt3 (b : Blt) (v u w : PV) (st : Store) : Res PV := match blt2 b v u st with
  | .ok x st => blt2 b x w st
  | _ => .stuck
def builtin (b : Blt) (vs : List PV) (st : Store) : Res PV := match vs with
  | [v] => blt1 b v st
  | [v, u] => blt2 b v u st
  | [v, u, w] => blt3 b v u w st
  | _ => .stuck
def setL (st : Store) (a : Nat) (xs : List PV) (v : PV) : Res PV := if sizeOk xs.length then .ok v (st.set a (.lst xs)) else .stuck
def isLst (st : Store) : PV → Option Bool
  | .obj a => (match st[a]? with
    | some (.lst _) => some true
    | _ => none)
  | _ => none
def lmeth (m : LM) (o : PV) (vs : List PV) (st : Store) : Res PV := match o with
  | .obj a => (match st[a]? with
    | some (.lst xs) => (match m, vs with
      | .append, [v] => setL st a (xs ++ [v]) .non
      | .pop, [] => (match xs[xs.length - 1]? with
        | some v => setL st a xs.dropLast v
        | none => .stuck)
      | .popAt, [.int i] => (match ixN xs.length i with
        | some k => (match xs[k]? with
          | some v => setL st a (xs.eraseIdx k) v
          | none => .stuck)
        | none => .stuck)
      | _, _ => .stuck)
    | _ => .stuck)
  | _ => .stuck
/-- the ints of a range -/
def rangeL (lo : Int) (n : Nat) : List PV := (List.range n).map fun i => .int (lo + (i : Nat))
def smallI (i : Int) : Bool := decide (-(2 ^ 62) ≤ i) && decide (i < 2 ^ 62)
def rangeOf (vs : List PV) : Option (List PV) := match vs with
  | [.int j] => if smallI j then some (rangeL 0 j.toNat) else none
  | [.int i, .int j] => if smallI i && smallI j then some (rangeL i (j - i).toNat) else none
  | [.int i, .int j, .int c] => if smallI i && (smallI j && decide (c = -1)) then some ((List.range (i - j).toNat).map fun k => .int (i - (k : Nat))) else none
  | _ => none
/-- what a loop walks: the items, the cells that must stay -/
abbrev Stm := List PV × List (Nat × List PV)
def stmOf (st : Store) : PV → Option Stm
  | .tup xs => some (xs, [])
  | .flst xs => some (xs, [])
  | .obj a => (match st[a]? with
    | some (.lst xs) => some (xs, [(a, xs)])
    | _ => none)
  | _ => none
def watch (st : Store) : List (Nat × List PV) → Bool
  | [] => true
  | (a, xs) :: r => (match st[a]? with
    | some (.lst ys) => PV.beqs ys xs
    | _ => false) && watch st r
def enumL : Nat → List PV → List PV
  | _, [] => []
  | n, x :: xs => .tup [.int n, x] :: enumL (n + 1) xs
def zipL : List PV → List PV → List PV
  | x :: xs, y :: ys => .tup [x, y] :: zipL xs ys
  | _, _ => []
def lookG {α : Type} (f : Nat) : List Nat → List α → Option α
  | k :: ks, v :: vs => if k = f then some v else lookG f ks vs
  | _, _ => none
def putK (f : Nat) : List Nat → List Nat
  | [] => [f]
  | k :: ks => if k = f then k :: ks else k :: putK f ks
def putG {α : Type} (f : Nat) (v : α) : List Nat → List α → List α
  | k :: ks, x :: xs => if k = f then v :: xs else x :: putG f v ks xs
  | _, _ => [v]
/-- zip of two tuples, of two lists -/
def zipStm (st : Store) (x y : PV) : Option Stm := if isTup x == isTup y then (match stmOf st x with
  | some s => (match stmOf st y with
    | some t => some (zipL s.1 t.1, s.2 ++ t.2)
    | none => none)
  | none => none) else none
/-- the type of a value, is it of the type -/
def isTy (sub : Nat → Nat → Bool) (st : Store) (v : PV) (t : Ty) : Option Bool := match v with
  | .non => some (match t with | _ => false)
  | .bl _ => some (match t with | .bool => true | .int => true | _ => false)
  | .int _ => some (match t with | .int => true | _ => false)
  | .str _ => some (match t with | .str => true | _ => false)
  | .tup _ => some (match t with | .tuple => true | _ => false)
  | .flst _ => some (match t with | .list => true | _ => false)
  | .obj a => (match st[a]? with
    | some (.lst _) => some (match t with | .list => true | _ => false)
    | some (.ins c _ _) => (match t with | .own d => some (sub c d) | .verr => none | _ => some false)
    | _ => none)
  | .ins c _ _ => (match t with | .own d => some (sub c d) | .verr => none | _ => some false)
def isTys (sub : Nat → Nat → Bool) (st : Store) (v : PV) : List Ty → Option Bool
  | [] => some false
  | t :: ts => match isTy sub st v t with
    | some true => some true
    | some false => isTys sub st v ts
    | none => none

/-! ### the program's table -/
inductive FKind where
  | fn (name : Str)
  | meth (c : Nat) (name : Str)
structure CFun where
  np : Nat
  nl : Nat
  body : List CS
structure CCls where
  /-- instances do not change behind their making -/
  frozen : Bool
  init : Option Nat
  meths : List (Nat × Nat)
  eq : Option Nat
  /-- the names that its instances may bear -/
  flds : List Nat
  /-- own classes that it is of (itself too) -/
  sups : List Nat
  /-- an exception class: its fields, by the place of the argument -/
  exc : Option (Nat × List (Nat × Nat))
  deriving Inhabited
structure Tab where
  fns : List CFun
  cls : List CCls
structure Gl where
  call : Nat → List PV → Store → Res PV
  cls : Nat → Option CCls
  xn : Option (Nat × List Nat × List PV)
def lookN {α : Type} (k : Nat) : List (Nat × α) → Option α
  | [] => none
  | (j, a) :: r => if j = k then some a else lookN k r
def Gl.sub (G : Gl) (c d : Nat) : Bool := match G.cls c with
  | some C => C.sups.any fun e => e == d
  | none => false
/-- is an exception of the class c of one of the types -/
def exTys (G : Gl) (c : Nat) : List Ty → Bool
  | [] => false
  | t :: ts => (match t with | .own d => G.sub c d | .verr => true | _ => false) || exTys G c ts
/-- attribute of a value -/
def attrOf (f : Nat) (o : PV) (st : Store) : Res PV := match o with
  | .ins _ ks vs => opt st (lookG f ks vs)
  | .obj a => (match st[a]? with
    | some (.ins _ ks vs) => opt st (lookG f ks vs)
    | _ => .stuck)
  | _ => .stuck
def clsOf (st : Store) : PV → Option Nat
  | .ins c _ _ => some c
  | .obj a => (match st[a]? with
    | some (.ins c _ _) => some c
    | _ => none)
  | _ => none
/-- the def that o.m is -/
def methOf (G : Gl) (m : Nat) (o : PV) (st : Store) : Option Nat := match clsOf st o with
  | some c => (match G.cls c with
    | some C => lookN m C.meths
    | none => none)
  | none => none
/-- cells behind n are let go where nothing names them -/
def gcOk (n : Nat) (st st1 : Store) (v : PV) : Bool := closed n v && (Store.beq (st1.take n) st || (st1.take n).all (closedC n))
def gc (st : Store) (v : PV) (st1 : Store) : Res PV := if st1.length = st.length then .ok v st1 else if gcOk st.length st st1 v then .ok v (st1.take st.length) else .ok v st1
def gcX (st : Store) (c : Nat) (ks : List Nat) (vs : List PV) (st1 : Store) : Res PV :=
  if st1.length = st.length then .exc c ks vs st1 else if gcOk st.length st st1 (.tup vs) then .exc c ks vs (st1.take st.length) else .exc c ks vs st1
def makeObj (G : Gl) (c : Nat) (vs : List PV) (st : Store) : Res PV := match G.cls c with
  | some C => (match C.init with
    | some f => (match G.call f (.obj st.length :: vs) (st ++ [.ins c [] []]) with
      | .ok .non st1 => (match C.frozen with
        | true => (match st1[st.length]? with
          | some (.ins d ks us) => if st1.length = st.length + 1 ∧ d = c ∧ gcOk st.length st st1 (.tup us) = true then .ok (.ins c ks us) (st1.take st.length) else .stuck
          | _ => .stuck)
        | false => .ok (.obj st.length) st1)
      | .exc e ks us st1 => gcX st e ks us st1
      | _ => .stuck)
    | none => .stuck)
  | none => .stuck
/-- == of own instances of one class by __eq__, else by data -/
def eqOwn (G : Gl) (c : Nat) (a b : PV) (st : Store) : Res PV := match G.cls c with
  | some C => (match C.eq with
    | some f => (match G.call f [a, b] st with
      | .ok (.bl k) st1 => .ok (.bl k) st1
      | _ => .stuck)
    | none => .stuck)
  | none => .stuck
def compare (G : Gl) (o : COp) (a b : PV) (st : Store) : Res PV := match o with
  | .eq => (match clsOf st a with
    | some c => if clsOf st b = some c then eqOwn G c a b st else .stuck
    | none => cmpop .eq a b st)
  | .ne => (match clsOf st a with
    | some _ => .stuck
    | none => cmpop .ne a b st)
  | o => cmpop o a b st

/-! ### expressions -/
def setAll (fr : Frame) : List Nat → List PV → Option Frame
  | [], [] => some fr
  | i :: is, v :: vs => setAll (fr.set i (some v)) is vs
  | _, _ => none
def assignT (tg : CT) (v : PV) (fr : Frame) (st : Store) : Option Frame := match tg with
  | .nm i => some (fr.set i (some v))
  | .tp is => (match v with
    | .tup xs => setAll fr is xs
    | .obj a => (match st[a]? with
      | some (.lst xs) => setAll fr is xs
      | _ => none)
    | _ => none)
def wipeF (fr : Frame) : List Nat → Frame
  | [] => fr
  | i :: is => (wipeF fr is).set i none
/-- the turns of a comprehension: frame afresh each turn but for the block's own names -/
def compL (tgt : PV → Frame → Store → Option Frame) (test : Frame → Store → Res Bool) (elt : Frame → Store → Res (List PV)) (wt : List (Nat × List PV)) (fr : Frame) : List PV → Store → Res (List PV)
  | [], st => if watch st wt then .ok [] st else .stuck
  | x :: xs, st => if watch st wt then
      (match tgt x fr st with
      | some fr1 => (test fr1 st).bind fun b st1 => if b then (elt fr1 st1).bind fun ys st2 => (compL tgt test elt wt fr xs st2).bind fun r st3 => .ok (ys ++ r) st3 else compL tgt test elt wt fr xs st1
      | none => .stuck) else .stuck
/-- no exception leaves a comprehension here -/
def noExc {α : Type} : Res α → Res α
  | .exc _ _ _ _ => .stuck
  | r => r

def cond {α : Type} (b : Option Bool) (x y : Res α) : Res α := match b with
  | some true => x
  | some false => y
  | none => .stuck
def boolOf : PV → Option Bool
  | .bl b => some b
  | _ => none
def negate (x : PV) (st : Store) : Res PV := match x with
  | .int i => .ok (.int (-i)) st
  | _ => .stuck
mutual
def evE (G : Gl) : CE → Frame → Store → Res PV
  | .var i, fr, st => (match fr[i]? with
    | some (some v) => .ok v st
    | _ => .stuck)
  | .cst v, _, st => .ok v st
  | .bin o a b, fr, st => (evE G a fr st).bind fun x st1 => (evE G b fr st1).bind fun y st2 => binop o x y st2
  | .neg a, fr, st => (evE G a fr st).bind fun x st1 => negate x st1
  | .nt a, fr, st => (evE G a fr st).bind fun x st1 => cond (truth st1 x) (.ok (.bl false) st1) (.ok (.bl true) st1)
  | .and a b, fr, st => (evE G a fr st).bind fun x st1 => cond (truth st1 x) (evE G b fr st1) (.ok x st1)
  | .or a b, fr, st => (evE G a fr st).bind fun x st1 => cond (truth st1 x) (.ok x st1) (evE G b fr st1)
  | .cmp o a b, fr, st => (evE G a fr st).bind fun x st1 => (evE G b fr st1).bind fun y st2 => compare G o x y st2
  | .cmpD o a b, fr, st => (evE G a fr st).bind fun x st1 => (evE G b fr st1).bind fun y st2 => cmpop o x y st2
  | .chain o p a b c, fr, st => (evE G a fr st).bind fun x st1 => (evE G b fr st1).bind fun y st2 => (cmpop o x y st2).bind fun k st3 =>
      cond (boolOf k) ((evE G c fr st3).bind fun z st4 => cmpop p y z st4) (.ok (.bl false) st3)
  | .ite c a b, fr, st => (evE G c fr st).bind fun x st1 => cond (truth st1 x) (evE G a fr st1) (evE G b fr st1)
  | .tup es, fr, st => (evEs G es fr st).bind fun vs st1 => newT st1 vs
  | .lst es, fr, st => (evEs G es fr st).bind fun vs st1 => newL st1 vs
  | .call f es, fr, st => (evEs G es fr st).bind fun vs st1 => G.call f vs st1
  | .callB f es cs ds, fr, st => (evEs G es fr st).bind fun vs st1 => (opt st1 (omap (fun i => (vs ++ ds)[i]?) cs)).bind fun as st2 => G.call f as st2
  | .make c es, fr, st => (evEs G es fr st).bind fun vs st1 => makeObj G c vs st1
  | .meth m o es, fr, st => (evE G o fr st).bind fun x st1 => (match methOf G m x st1 with
    | some f => (evEs G es fr st1).bind fun vs st2 => G.call f (x :: vs) st2
    | none => .stuck)
  | .attr f o, fr, st => (evE G o fr st).bind fun x st1 => attrOf f x st1
  | .ix a b, fr, st => (evE G a fr st).bind fun x st1 => (evE G b fr st1).bind fun y st2 => index x y st2
  | .slc l h a lo hi, fr, st => (evE G a fr st).bind fun x st1 => (if l then (evE G lo fr st1).bind partI else .ok none st1).bind fun y st2 => (if h then (evE G hi fr st2).bind partI else .ok none st2).bind fun z st3 => slice x y z st3
  | .rslc a, fr, st => (evE G a fr st).bind fun x st1 => rslice x st1
  | .blt b es, fr, st => (evEs G es fr st).bind fun vs st1 => builtin b vs st1
  | .lm m o es, fr, st => (evE G o fr st).bind fun x st1 => cond (isLst st1 x) ((evEs G es fr st1).bind fun vs st2 => lmeth m x vs st2) .stuck
  | .isin a ts, fr, st => (evE G a fr st).bind fun x st1 => cond (isTys G.sub st1 x ts) (.ok (.bl true) st1) (.ok (.bl false) st1)
  | .comp own tg it ifs elt, fr, st => (evI G it fr st).bind fun s st1 =>
      (noExc (compL (fun v fr st => assignT tg v fr st) (evT G ifs) (fun fr st => (evE G elt fr st).bind fun v st1 => .ok [v] st1) s.2 (wipeF fr own) s.1 st1)).bind fun xs st2 => newL st2 xs
  | .comp2 own own2 tg it ifs tg2 it2 ifs2 elt, fr, st => (evI G it fr st).bind fun s st1 =>
      (noExc (compL (fun v fr st => assignT tg v fr st) (evT G ifs) (fun fr st => (evI G it2 fr st).bind fun s2 st1 =>
        compL (fun v fr st => assignT tg2 v fr st) (evT G ifs2) (fun fr st => (evE G elt fr st).bind fun v st1 => .ok [v] st1) s2.2 (wipeF fr own2) s2.1 st1) s.2 (wipeF fr own) s.1 st1)).bind fun xs st2 => newL st2 xs
  | .bltC b own tg it ifs elt, fr, st => (evI G it fr st).bind fun s st1 =>
      (noExc (compL (fun v fr st => assignT tg v fr st) (evT G ifs) (fun fr st => (evE G elt fr st).bind fun v st1 => .ok [v] st1) s.2 (wipeF fr own) s.1 st1)).bind fun xs st2 => if sizeOk xs.length then bltL b xs st2 else .stuck
  | .bltI b it, fr, st => (evI G it fr st).bind fun s st1 => if sizeOk s.1.length then bltL b s.1 st1 else .stuck
  | .xat f, _, st => (match G.xn with
    | some (_, ks, vs) => opt st (lookG f ks vs)
    | none => .stuck)
  | .xis ts, _, st => (match G.xn with
    | some (c, _, _) => .ok (.bl (exTys G c ts)) st
    | none => .stuck)
def evEs (G : Gl) : List CE → Frame → Store → Res (List PV)
  | [], _, st => .ok [] st
  | e :: es, fr, st => (evE G e fr st).bind fun v st1 => (evEs G es fr st1).bind fun vs st2 => .ok (v :: vs) st2
/-- the tests of a comprehension -/
def evT (G : Gl) : List CE → Frame → Store → Res Bool
  | [], _, st => .ok true st
  | e :: es, fr, st => (evE G e fr st).bind fun v st1 => cond (truth st1 v) (evT G es fr st1) (.ok false st1)
/-- what a loop walks -/
def evI (G : Gl) : CI → Frame → Store → Res Stm
  | .rng es, fr, st => (evEs G es fr st).bind fun vs st1 => (opt st1 (rangeOf vs)).bind fun xs st1 => .ok (xs, []) st1
  | .revr es, fr, st => (evEs G es fr st).bind fun vs st1 => (opt st1 (rangeOf vs)).bind fun xs st1 => .ok (xs.reverse, []) st1
  | .enm e, fr, st => (evE G e fr st).bind fun v st1 => (opt st1 (stmOf st1 v)).bind fun s st1 => .ok (enumL 0 s.1, s.2) st1
  | .zip a b, fr, st => (evE G a fr st).bind fun x st1 => (evE G b fr st1).bind fun y st2 => opt st2 (zipStm st2 x y)
  | .rev e, fr, st => (evE G e fr st).bind fun v st1 => (opt st1 (stmOf st1 v)).bind fun s st1 => .ok (s.1.reverse, s.2) st1
  | .seq e, fr, st => (evE G e fr st).bind fun v st1 => opt st1 (stmOf st1 v)
end

/-! ### statements -/
/-- the turns of a for -/
def forL (tgt : PV → Frame → Store → Option Frame) (body : Frame → Store → SRes) (wt : List (Nat × List PV)) : List PV → Frame → Store → SRes
  | [], fr, st => if watch st wt then .nx fr st else .stuck
  | x :: xs, fr, st => if watch st wt then
      (match tgt x fr st with
      | some fr1 => (match body fr1 st with
        | .nx fr2 st2 => forL tgt body wt xs fr2 st2
        | .ct fr2 st2 => forL tgt body wt xs fr2 st2
        | .bk fr2 st2 => .nx fr2 st2
        | r => r)
      | none => .stuck) else .stuck
def whlL (test : Frame → Store → Res PV) (body : Frame → Store → SRes) : Nat → Frame → Store → SRes
  | 0, _, _ => .stuck
  | n + 1, fr, st => (test fr st).toS fr fun v st1 => (match truth st1 v with
    | some true => (match body fr st1 with
      | .nx fr2 st2 => whlL test body n fr2 st2
      | .ct fr2 st2 => whlL test body n fr2 st2
      | .bk fr2 st2 => .nx fr2 st2
      | r => r)
    | some false => .nx fr st1
    | none => .stuck)
def condS (b : Option Bool) (x y : SRes) : SRes := match b with
  | some true => x
  | some false => y
  | none => .stuck
def setSub (o i v : PV) (st : Store) : Option Store := match o, i with
  | .obj a, .int k => (match st[a]? with
    | some (.lst xs) => (match ixN xs.length k with
      | some j => some (st.set a (.lst (xs.set j v)))
      | none => none)
    | _ => none)
  | _, _ => none
def fieldOk (G : Gl) (c f : Nat) : Bool := match G.cls c with
  | some C => C.flds.any fun e => e == f
  | none => false
def setFld (G : Gl) (o : PV) (f : Nat) (v : PV) (st : Store) : Option Store := match o with
  | .obj a => (match st[a]? with
    | some (.ins c ks vs) => if decide (ks.length < 900) && fieldOk G c f then some (st.set a (.ins c (putK f ks) (putG f v ks vs))) else none
    | _ => none)
  | _ => none
def raiseOf (G : Gl) (c : Nat) (vs : List PV) (fr : Frame) (st : Store) : SRes := match G.cls c with
  | some C => (match C.exc with
    | some (n, fs) => if vs.length = n then (match omap (fun p : Nat × Nat => vs[p.2]?) fs with
      | some us => .exc c (fs.map (·.1)) us fr st
      | none => .stuck) else .stuck
    | none => .stuck)
  | none => .stuck
def augI (o : BOp) (x v : PV) : Option Int := match o, x, v with
  | .add, .int i, .int j => some (i + j)
  | .sub, .int i, .int j => some (i - j)
  | _, _, _ => none
def whlFuel : Nat := 2 ^ 64
mutual
def exS (G : Gl) : CS → Frame → Store → SRes
  | .expr e, fr, st => (evE G e fr st).toS fr fun _ st1 => .nx fr st1
  | .set i e, fr, st => (evE G e fr st).toS fr fun v st1 => .nx (fr.set i (some v)) st1
  | .setT is e, fr, st => (evE G e fr st).toS fr fun v st1 => (match assignT (.tp is) v fr st1 with
    | some fr1 => .nx fr1 st1
    | none => .stuck)
  | .par is es, fr, st => (evEs G es fr st).toS fr fun vs st1 => (match setAll fr is vs with
    | some fr1 => .nx fr1 st1
    | none => .stuck)
  | .setSub o i e, fr, st => (evE G e fr st).toS fr fun v st1 => (evE G o fr st1).toS fr fun x st2 => (evE G i fr st2).toS fr fun k st3 => (match setSub x k v st3 with
    | some st4 => .nx fr st4
    | none => .stuck)
  | .parSub o i o2 i2 e e2, fr, st => (evE G e fr st).toS fr fun v st1 => (evE G e2 fr st1).toS fr fun v2 st1 => (evE G o fr st1).toS fr fun x st2 => (evE G i fr st2).toS fr fun k st3 => (match setSub x k v st3 with
    | some st4 => (evE G o2 fr st4).toS fr fun x2 st5 => (evE G i2 fr st5).toS fr fun k2 st6 => (match setSub x2 k2 v2 st6 with
      | some st7 => .nx fr st7
      | none => .stuck)
    | none => .stuck)
  | .setAttr o f e, fr, st => (evE G e fr st).toS fr fun v st1 => (evE G o fr st1).toS fr fun x st2 => (match setFld G x f v st2 with
    | some st3 => .nx fr st3
    | none => .stuck)
  | .aug i o e, fr, st => (match fr[i]? with
    | some (some x) => (evE G e fr st).toS fr fun v st1 => (match augI o x v with
      | some y => .nx (fr.set i (some (.int y))) st1
      | none => .stuck)
    | _ => .stuck)
  | .ife c a b, fr, st => (evE G c fr st).toS fr fun v st1 => condS (truth st1 v) (exSs G a fr st1) (exSs G b fr st1)
  | .for_ tg it body, fr, st => (evI G it fr st).toS fr fun s st1 => forL (fun v fr st => assignT tg v fr st) (exSs G body) s.2 s.1 fr st1
  | .whl c body, fr, st => whlL (evE G c) (exSs G body) whlFuel fr st
  | .ret e, fr, st => (evE G e fr st).toS fr fun v st1 => .rt v st1
  | .retN, _, st => .rt .non st
  | .raise c es, fr, st => (evEs G es fr st).toS fr fun vs st1 => raiseOf G c vs fr st1
  | .try_ body hs, fr, st => (match exSs G body fr st with
    | .exc c ks vs fr1 st1 => exH G hs c ks vs fr1 st1
    | r => r)
  | .hnd _ _ _, _, _ => .stuck
  | .pass, fr, st => .nx fr st
  | .brk, fr, st => .bk fr st
  | .cnt, fr, st => .ct fr st
def exSs (G : Gl) : List CS → Frame → Store → SRes
  | [], fr, st => .nx fr st
  | s :: ss, fr, st => (match exS G s fr st with
    | .nx fr1 st1 => exSs G ss fr1 st1
    | r => r)
/-- the clauses of a try -/
def exH (G : Gl) : List CS → Nat → List Nat → List PV → Frame → Store → SRes
  | .hnd d n suite :: hs, c, ks, vs, fr, st => (match G.sub c d with
    | true => (match n with
      | some i => (match exSs { G with xn := some (c, ks, vs) } suite (fr.set i none) st with
        | .nx fr1 st1 => .nx (fr1.set i none) st1
        | .bk fr1 st1 => .bk (fr1.set i none) st1
        | .ct fr1 st1 => .ct (fr1.set i none) st1
        | .exc _ _ _ _ _ => .stuck
        | r => r)
      | none => (match exSs { G with xn := none } suite fr st with
        | .exc _ _ _ _ _ => .stuck
        | r => r))
    | false => exH G hs c ks vs fr st)
  | _, c, ks, vs, fr, st => .exc c ks vs fr st
end

/-! ### defs -/
def fin (st : Store) : SRes → Res PV
  | .nx _ st1 => gc st .non st1
  | .rt v st1 => gc st v st1
  | .exc c ks vs _ st1 => gcX st c ks vs st1
  | _ => .stuck
def runF (G : Gl) (fd : CFun) (args : List PV) (st : Store) : Res PV :=
  if args.length = fd.np then fin st (exSs G fd.body (args.map some ++ List.replicate (fd.nl - fd.np) none) st) else .stuck
def callN (T : Tab) : Nat → Nat → List PV → Store → Res PV
  | 0, _, _, _ => .stuck
  | n + 1, f, args, st => (match T.fns[f]? with
    | some fd => runF ⟨callN T n, fun c => T.cls[c]?, none⟩ fd args st
    | none => .stuck)
end Ev

set_option Elab.async false
set_option linter.all false
set_option maxRecDepth 100000
set_option maxHeartbeats 2000000
/-! Values and stores against the abstract heap. -/
namespace Ev
open PySem PySem.Spec PyProof.Rows L2

/-- what is fixed through a law: the written part, the classes' places, the attributes' names -/
structure Fx where
  K : PySem.W.Frag
  cA : Nat → Addr
  aN : Nat → Str
  /-- the classes' number -/
  nc : Nat
  inj : ∀ j k, aN j = aN k → j = k
/-- the ledger: what never changes any more, where the cells stand, what is held as it is for a while (a comprehension's list) -/
structure Lg where
  F : Hp
  m : List Addr
  P : Hp

/-- a tuple of the module -/
def KSq (K : PySem.W.Frag) (a : Addr) (xs : List V) : Prop :=
  ∃ (o : Obj) (its : Array Value) (n : Nat), K.lookup a = some o ∧ o.cls = .type "tuple" ∧ o.data = .seq its n ∧ its.size ≤ sizeLine ∧ Vals xs its.toList
/-- a list of the module -/
def KLq (K : PySem.W.Frag) (a : Addr) (xs : List V) : Prop :=
  ∃ (o : Obj) (its : Array Value) (n : Nat), K.lookup a = some o ∧ o.cls = .type "list" ∧ o.dict = none ∧ o.data = .seq its n ∧ its.size ≤ sizeLine ∧ Vals xs its.toList
/-- what the written part says of an own class -/
structure ClsOk (X : Fx) (c : Nat) : Prop where
  lt : c < X.nc
  cl : Cls X.K (X.cA c)
  ha : PySem.W.findIn X.K (.ref (X.cA c)) "__class__" = some (some (.builtin "object.__class__"))
  hn : PySem.W.specialIn X.K (.builtin "object.__class__") "__get__" = some (some (.builtin "getset_descriptor.__get__"))
  ht : PySem.W.takesIn X.K (.builtin "object.__class__") = some true
  hm : PySem.W.mroIn X.K (X.cA c) (.type "object") = some true
/-- .. of an exception's class -/
structure ExOk (X : Fx) (c : Nat) : Prop where
  lt : c < X.nc
  ve : PySem.W.kitOne X.K (.ref (X.cA c)) (.type "ValueError") = some true
  x : XfC X.K (X.cA c)
  e : ExcC X.K (X.cA c)
/-- an instance of the class may bear these attributes -/
def Free (X : Fx) (c : Nat) (ks : List Nat) : Prop := ∀ k ∈ ks, NoAttr X.K (X.cA c) (X.aN k)
mutual
inductive RV (X : Fx) (L : Lg) : PV → V → Prop
  | non : RV X L .non .non
  | bl (b : Bool) : RV X L (.bl b) (.bl b)
  | int (i : Int) : RV X L (.int i) (.int i)
  | str (s : Str) : RV X L (.str s) (.str s)
  | tup {a : Addr} {xs : List V} {vs : List PV} : L.F a = some (.tup xs) → RVs X L vs xs → RV X L (.tup vs) (.ref a)
  | ktup {a : Addr} {xs : List V} {vs : List PV} : KSq X.K a xs → RVs X L vs xs → RV X L (.tup vs) (.ref a)
  | flst {a : Addr} {o : Obj} {xs : List V} {vs : List PV} : L.F a = some (.frz o (.lst xs)) → RVs X L vs xs → RV X L (.flst vs) (.ref a)
  | kflst {a : Addr} {xs : List V} {vs : List PV} : KLq X.K a xs → RVs X L vs xs → RV X L (.flst vs) (.ref a)
  | obj {i : Nat} {a : Addr} : L.m[i]? = some a → RV X L (.obj i) (.ref a)
  | ins {c : Nat} {a dx : Addr} {ks : List Nat} {vs : List PV} {xs : List V} : L.F a = some (.ins (X.cA c) dx ((ks.map X.aN).zip xs)) → ks.length = xs.length → ClsOk X c → Free X c ks → RVs X L vs xs → RV X L (.ins c ks vs) (.ref a)
inductive RVs (X : Fx) (L : Lg) : List PV → List V → Prop
  | nil : RVs X L [] []
  | cons {v : PV} {x : V} {vs : List PV} {xs : List V} : RV X L v x → RVs X L vs xs → RVs X L (v :: vs) (x :: xs)
end

structure Lg.le (L L' : Lg) : Prop where
  F : ∀ a o, L.F a = some o → L'.F a = some o
  m : ∀ (i : Nat) a, L.m[i]? = some a → L'.m[i]? = some a
  P : L'.P = L.P
theorem Lg.le.rfl' {L : Lg} : L.le L := ⟨fun _ _ h => h, fun _ _ h => h, rfl⟩
theorem Lg.le.trans {L L' L'' : Lg} (a : L.le L') (b : L'.le L'') : L.le L'' := ⟨fun x o h => b.F x o (a.F x o h), fun i x h => b.m i x (a.m i x h), b.P.trans a.P⟩

/-- .. whatever is held -/
structure Lg.lef (L L' : Lg) : Prop where
  F : ∀ a o, L.F a = some o → L'.F a = some o
  m : ∀ (i : Nat) a, L.m[i]? = some a → L'.m[i]? = some a
theorem Lg.le.f {L L' : Lg} (h : L.le L') : L.lef L' := ⟨h.F, h.m⟩
theorem Lg.lef.trans {L L' L'' : Lg} (a : L.lef L') (b : L'.lef L'') : L.lef L'' := ⟨fun x o h => b.F x o (a.F x o h), fun i x h => b.m i x (a.m i x h)⟩
theorem Lg.lef.rfl' {L : Lg} : L.lef L := ⟨fun _ _ h => h, fun _ _ h => h⟩
theorem Lg.lef.hold {L : Lg} {P : Hp} : L.lef { L with P := P } := ⟨fun _ _ h => h, fun _ _ h => h⟩
theorem Lg.lef.unhold {L : Lg} {P : Hp} : Lg.lef { L with P := P } L := ⟨fun _ _ h => h, fun _ _ h => h⟩
section
variable {X : Fx} {L L' : Lg}
mutual
theorem RV.monoF (h : L.lef L') : ∀ {v : PV} {x : V}, RV X L v x → RV X L' v x
  | _, _, .non => .non
  | _, _, .bl b => .bl b
  | _, _, .int i => .int i
  | _, _, .str s => .str s
  | _, _, .tup e r => .tup (h.F _ _ e) (RVs.monoF h r)
  | _, _, .ktup e r => .ktup e (RVs.monoF h r)
  | _, _, .flst e r => .flst (h.F _ _ e) (RVs.monoF h r)
  | _, _, .kflst e r => .kflst e (RVs.monoF h r)
  | _, _, .obj e => .obj (h.m _ _ e)
  | _, _, .ins e l c f r => .ins (h.F _ _ e) l c f (RVs.monoF h r)
theorem RVs.monoF (h : L.lef L') : ∀ {vs : List PV} {xs : List V}, RVs X L vs xs → RVs X L' vs xs
  | _, _, .nil => .nil
  | _, _, .cons a r => .cons (RV.monoF h a) (RVs.monoF h r)
end
theorem RV.mono (h : L.le L') {v : PV} {x : V} (r : RV X L v x) : RV X L' v x := r.monoF h.f
theorem RVs.mono (h : L.le L') {vs : List PV} {xs : List V} (r : RVs X L vs xs) : RVs X L' vs xs := r.monoF h.f
mutual
theorem RV.anyP {P : Hp} : ∀ {v : PV} {x : V}, RV X L v x → RV X { L with P := P } v x
  | _, _, .non => .non
  | _, _, .bl b => .bl b
  | _, _, .int i => .int i
  | _, _, .str s => .str s
  | _, _, .tup e r => .tup e (RVs.anyP r)
  | _, _, .ktup e r => .ktup e (RVs.anyP r)
  | _, _, .flst e r => .flst e (RVs.anyP r)
  | _, _, .kflst e r => .kflst e (RVs.anyP r)
  | _, _, .obj e => .obj e
  | _, _, .ins e l c f r => .ins e l c f (RVs.anyP r)
theorem RVs.anyP {P : Hp} : ∀ {vs : List PV} {xs : List V}, RVs X L vs xs → RVs X { L with P := P } vs xs
  | _, _, .nil => .nil
  | _, _, .cons a r => .cons (RV.anyP a) (RVs.anyP r)
end
theorem RVs.length : ∀ {vs : List PV} {xs : List V}, RVs X L vs xs → vs.length = xs.length
  | _, _, .nil => rfl
  | _, _, .cons _ r => by simp [RVs.length r]
theorem RVs.get : ∀ {vs : List PV} {xs : List V} {i : Nat} {v : PV}, RVs X L vs xs → vs[i]? = some v → ∃ x, xs[i]? = some x ∧ RV X L v x
  | _, _, _, _, .nil, e => by simp at e
  | _, _, 0, _, .cons a _, e => by simp at e; subst e; exact ⟨_, rfl, a⟩
  | _, _, i + 1, v, .cons _ r, e => by
    obtain ⟨x, e1, e2⟩ := RVs.get (i := i) (v := v) r (by simpa using e)
    exact ⟨x, by simpa using e1, e2⟩
theorem RVs.get' : ∀ {vs : List PV} {xs : List V} {i : Nat} {x : V}, RVs X L vs xs → xs[i]? = some x → ∃ v, vs[i]? = some v ∧ RV X L v x
  | _, _, _, _, .nil, e => by simp at e
  | _, _, 0, _, .cons a _, e => by simp at e; subst e; exact ⟨_, rfl, a⟩
  | _, _, i + 1, v, .cons _ r, e => by
    obtain ⟨x, e1, e2⟩ := RVs.get' (i := i) (x := v) r (by simpa using e)
    exact ⟨x, by simpa using e1, e2⟩
theorem RVs.append : ∀ {vs ws : List PV} {xs ys : List V}, RVs X L vs xs → RVs X L ws ys → RVs X L (vs ++ ws) (xs ++ ys)
  | _, _, _, _, .nil, r => r
  | _, _, _, _, .cons a r, s => .cons a (RVs.append r s)
theorem RVs.snoc {vs : List PV} {xs : List V} {v : PV} {x : V} (r : RVs X L vs xs) (a : RV X L v x) : RVs X L (vs ++ [v]) (xs ++ [x]) := r.append (.cons a .nil)
theorem RVs.drop : ∀ {vs : List PV} {xs : List V} (n : Nat), RVs X L vs xs → RVs X L (vs.drop n) (xs.drop n)
  | _, _, 0, r => r
  | _, _, _ + 1, .nil => .nil
  | _, _, n + 1, .cons _ r => RVs.drop n r
theorem RVs.take : ∀ {vs : List PV} {xs : List V} (n : Nat), RVs X L vs xs → RVs X L (vs.take n) (xs.take n)
  | _, _, 0, _ => .nil
  | _, _, _ + 1, .nil => .nil
  | _, _, n + 1, .cons a r => .cons a (RVs.take n r)
theorem RVs.set {v : PV} {x : V} (a : RV X L v x) : ∀ {vs : List PV} {xs : List V} (i : Nat), RVs X L vs xs → RVs X L (vs.set i v) (xs.set i x)
  | _, _, _, .nil => .nil
  | _, _, 0, .cons _ r => .cons a r
  | _, _, i + 1, .cons b r => .cons b (RVs.set a i r)
theorem RVs.reverse : ∀ {vs : List PV} {xs : List V}, RVs X L vs xs → RVs X L vs.reverse xs.reverse
  | _, _, .nil => .nil
  | _, _, .cons a r => by simpa using (RVs.reverse r).snoc a
theorem RVs.eraseIdx : ∀ {vs : List PV} {xs : List V} (i : Nat), RVs X L vs xs → RVs X L (vs.eraseIdx i) (xs.eraseIdx i)
  | _, _, _, .nil => .nil
  | _, _, 0, .cons _ r => r
  | _, _, i + 1, .cons a r => .cons a (RVs.eraseIdx i r)
theorem RVs.dropLast {vs : List PV} {xs : List V} (r : RVs X L vs xs) : RVs X L vs.dropLast xs.dropLast := by
  rw [List.dropLast_eq_take, List.dropLast_eq_take, r.length]
  exact r.take _
theorem RVs.flat {vs : List PV} {xs : List V} (r : RVs X L vs xs) : ∀ k : Nat, RVs X L (reps k vs) (List.replicate k xs).flatten
  | 0 => .nil
  | k + 1 => by
    unfold reps
    simp only [List.replicate_succ, List.flatten_cons]
    exact r.append (r.flat k)
theorem RVs.isEmpty {vs : List PV} {xs : List V} (r : RVs X L vs xs) : vs.isEmpty = xs.isEmpty := by cases r <;> rfl
theorem RVs.look {ks : List Nat} {f : Nat} : ∀ {vs : List PV} {xs : List V} {v : PV}, RVs X L vs xs → lookG f ks vs = some v → ∃ x, lookG f ks xs = some x ∧ RV X L v x := by
  induction ks with
  | nil => intro vs xs v r e; cases vs <;> simp [lookG] at e
  | cons k ks ih =>
    intro vs xs v r e
    cases r with
    | nil => simp [lookG] at e
    | cons a r =>
      unfold lookG at e ⊢
      by_cases h : k = f
      · rw [if_pos h] at e ⊢
        cases e
        exact ⟨_, rfl, a⟩
      · rw [if_neg h] at e ⊢
        exact ih r e
theorem RVs.put {f : Nat} {v : PV} {x : V} (a : RV X L v x) : ∀ {ks : List Nat} {vs : List PV} {xs : List V}, ks.length = xs.length → RVs X L vs xs → RVs X L (putG f v ks vs) (putG f x ks xs)
  | [], _, _, e, .nil => .cons a .nil
  | k :: ks, _, _, e, .cons b r => by
    unfold putG
    by_cases h : k = f
    · rw [if_pos h, if_pos h]; exact .cons a r
    · rw [if_neg h, if_neg h]; exact .cons b (RVs.put a (by simpa using e) r)
theorem putG_len {α : Type} {f : Nat} {x : α} : ∀ {ks : List Nat} {xs : List α}, ks.length = xs.length → (putK f ks).length = (putG f x ks xs).length
  | [], [], _ => rfl
  | k :: ks, y :: ys, e => by
    unfold putK putG
    by_cases h : k = f
    · rw [if_pos h, if_pos h]; simpa using e
    · rw [if_neg h, if_neg h]; simpa using putG_len (f := f) (x := x) (ks := ks) (xs := ys) (by simpa using e)
/-- the attributes' pairs of an instance -/
abbrev prs (X : Fx) (ks : List Nat) (xs : List V) : List (Str × V) := (ks.map X.aN).zip xs
theorem prs_put {f : Nat} {x : V} : ∀ {ks : List Nat} {xs : List V}, ks.length = xs.length → putF (X.aN f) x (prs X ks xs) = prs X (putK f ks) (putG f x ks xs)
  | [], [], _ => rfl
  | k :: ks, y :: ys, e => by
    have e' : ks.length = ys.length := by simpa using e
    show putF (X.aN f) x ((X.aN k, y) :: prs X ks ys) = _
    unfold putF putK putG
    by_cases h : k = f
    · subst h; rw [if_pos rfl, if_pos rfl, if_pos rfl] <;> rfl
    · rw [if_neg (fun q => h (X.inj _ _ q)), if_neg h, if_neg h, prs_put e'] <;> rfl
theorem prs_look {f : Nat} : ∀ {ks : List Nat} {xs : List V}, (prs X ks xs).lookup (X.aN f) = lookG f ks xs
  | [], xs => by cases xs <;> rfl
  | k :: ks, [] => rfl
  | k :: ks, y :: ys => by
    show List.lookup (X.aN f) ((X.aN k, y) :: prs X ks ys) = _
    unfold lookG
    by_cases h : k = f
    · subst h; rw [if_pos rfl]; simp [List.lookup]
    · rw [if_neg h, List.lookup_cons]
      have : (X.aN f == X.aN k) = false := by rw [beq_eq_false_iff_ne]; exact fun q => h (X.inj _ _ q.symm)
      rw [this]; exact prs_look
theorem prs_len {ks : List Nat} {xs : List V} (e : ks.length = xs.length) : (prs X ks xs).length = ks.length := by simp [List.length_zip]; omega

/-! ### the store -/
def CellR (X : Fx) (L : Lg) (H : Hp) : Cell → Addr → Prop
  | .lst vs, a => ∃ xs, H a = some (.lst xs) ∧ RVs X L vs xs
  | .ins c ks vs, a => ∃ dx xs, H a = some (.ins (X.cA c) dx (prs X ks xs)) ∧ ks.length = xs.length ∧ ClsOk X c ∧ Free X c ks ∧ RVs X L vs xs
  | .dead, a => ∃ o, H a = some o
structure Rel (X : Fx) (L : Lg) (H : Hp) (st : Store) : Prop where
  sub : ∀ a o, L.F a = some o → H a = some o
  len : L.m.length = st.length
  nd : L.m.Nodup
  fr : ∀ a ∈ L.m, L.F a = none
  pr : ∀ a o, L.P a = some o → H a = some o ∧ L.F a = none ∧ a ∉ L.m
  cell : ∀ (i : Nat) c, st[i]? = some c → ∃ a, L.m[i]? = some a ∧ CellR X L H c a
/-- what else is known of the ledger (in a suite: of the exception) -/
structure Jd where
  p : Lg → L2.St → Prop
  /-- the slot that is not written -/
  fix : Option Nat
  mono : ∀ {L L' : Lg} {σ : L2.St}, L.lef L' → p L σ → p L' σ
  set : ∀ {L : Lg} {σ : L2.St} {i : Nat} {y : Option V}, fix ≠ some i → p L σ → p L (σ.set i y)
def J0 : Jd := ⟨fun _ _ => True, none, fun _ h => h, fun _ h => h⟩
structure FRel (X : Fx) (J : Jd) (L : Lg) (fr : Frame) (σ : L2.St) : Prop where
  j : J.p L σ
  len : fr.length = σ.length
  val : ∀ (i : Nat) v, fr[i]? = some (some v) → ∃ x, σ[i]? = some (some x) ∧ RV X L v x
theorem FRel.mono {J : Jd} (h : L.le L') {fr : Frame} {σ : L2.St} (r : FRel X J L fr σ) : FRel X J L' fr σ := ⟨J.mono h.f r.j, r.len, fun i v e => let ⟨x, a, b⟩ := r.val i v e; ⟨x, a, b.mono h⟩⟩
theorem FRel.set {J : Jd} {fr : Frame} {σ : L2.St} (r : FRel X J L fr σ) {v : PV} {x : V} (a : RV X L v x) (i : Nat) (hJ : J.fix ≠ some i) : FRel X J L (fr.set i (some v)) (σ.set i (some x)) := by
  refine ⟨J.set hJ r.j, by simp [r.len], fun j u e => ?_⟩
  rw [List.getElem?_set] at e ⊢
  by_cases h : i = j
  · subst h
    rw [if_pos rfl] at e ⊢
    by_cases hl : i < fr.length
    · rw [if_pos hl] at e
      rw [if_pos (by rw [← r.len]; exact hl)]
      cases e
      exact ⟨x, rfl, a⟩
    · rw [if_neg hl] at e; cases e
  · rw [if_neg h] at e ⊢
    exact r.val j u e
theorem FRel.unset {J : Jd} {fr : Frame} {σ : L2.St} (r : FRel X J L fr σ) (i : Nat) (x : Option V) (hJ : J.fix ≠ some i) : FRel X J L (fr.set i none) (σ.set i x) := by
  refine ⟨J.set hJ r.j, by simp [r.len], fun j u e => ?_⟩
  rw [List.getElem?_set] at e ⊢
  by_cases h : i = j
  · subst h
    rw [if_pos rfl] at e
    by_cases hl : i < fr.length
    · rw [if_pos hl] at e; cases e
    · rw [if_neg hl] at e; cases e
  · rw [if_neg h] at e ⊢
    exact r.val j u e
theorem CellR.mono (h : L.le L') {H : Hp} : ∀ {c : Cell} {a : Addr}, CellR X L H c a → CellR X L' H c a
  | .lst _, _, ⟨xs, e, r⟩ => ⟨xs, e, r.mono h⟩
  | .ins _ _ _, _, ⟨dx, xs, e, l, c, f, r⟩ => ⟨dx, xs, e, l, c, f, r.mono h⟩
  | .dead, _, r => r
theorem CellR.keep {H H' : Hp} {a : Addr} (h : H' a = H a) : ∀ {c : Cell}, CellR X L H c a → CellR X L H' c a
  | .lst _, ⟨xs, e, r⟩ => ⟨xs, h.trans e, r⟩
  | .ins _ _ _, ⟨dx, xs, e, l, c, f, r⟩ => ⟨dx, xs, h.trans e, l, c, f, r⟩
  | .dead, ⟨o, e⟩ => ⟨o, h.trans e⟩
theorem CellR.some {H : Hp} {a : Addr} : ∀ {c : Cell}, CellR X L H c a → ∃ o, H a = some o
  | .lst _, ⟨_, e, _⟩ => ⟨_, e⟩
  | .ins _ _ _, ⟨_, _, e, _⟩ => ⟨_, e⟩
  | .dead, r => r
section
variable {H : Hp} {st : Store}
theorem Rel.at (r : Rel X L H st) {i : Nat} {a : Addr} (e : L.m[i]? = some a) : ∃ c, st[i]? = some c ∧ CellR X L H c a := by
  have hi : i < st.length := by rw [← r.len]; exact (List.getElem?_eq_some_iff.mp e).1
  obtain ⟨b, e1, e2⟩ := r.cell i st[i] (by simp [hi])
  rw [e] at e1; cases e1
  exact ⟨_, by simp [hi], e2⟩
theorem Rel.mem_some (r : Rel X L H st) {a : Addr} (h : a ∈ L.m) : ∃ o, H a = some o := by
  obtain ⟨i, hi, e⟩ := List.getElem_of_mem h
  obtain ⟨c, _, q⟩ := r.at (i := i) (a := a) (by rw [List.getElem?_eq_getElem hi, e])
  exact q.some
/-- something new is laid that never changes -/
theorem Rel.newF (r : Rel X L H st) {p : Addr} {o : HO} (hp : H p = none) :
    L.le { L with F := upd L.F p o } ∧ Rel X { L with F := upd L.F p o } (upd H p o) st := by
  have hF : L.F p = none := by
    cases q : L.F p with
    | none => rfl
    | some u => rw [r.sub p u q] at hp; cases hp
  have le : L.le { L with F := upd L.F p o } := ⟨fun a u e => by
    show upd L.F p o a = some u
    rw [upd_ne (ne_of_none e hF)]; exact e, fun _ _ h => h, rfl⟩
  refine ⟨le, fun a u e => ?_, r.len, r.nd, fun a ha => ?_, fun a u e => ?_, fun i c e => ?_⟩
  · by_cases h : a = p
    · subst h
      have e' : upd L.F a o a = some u := e
      rw [upd_same] at e' ⊢; exact e'
    · have e' : upd L.F p o a = some u := e
      rw [upd_ne h] at e' ⊢; exact r.sub a u e'
  · obtain ⟨u, e⟩ := r.mem_some ha
    show upd L.F p o a = none
    rw [upd_ne (ne_of_none e hp)]; exact r.fr a ha
  · obtain ⟨e1, e2, e3⟩ := r.pr a u e
    have ne := ne_of_none e1 hp
    exact ⟨by rw [upd_ne ne]; exact e1, by show upd L.F p o a = none; rw [upd_ne ne]; exact e2, e3⟩
  · obtain ⟨a, e1, e2⟩ := r.cell i c e
    obtain ⟨u, e3⟩ := e2.some
    exact ⟨a, e1, (e2.mono le).keep (upd_ne (ne_of_none e3 hp))⟩
/-- something new is laid that nobody names -/
theorem Rel.newH (r : Rel X L H st) {p : Addr} {o : HO} (hp : H p = none) : Rel X L (upd H p o) st := by
  refine ⟨fun a u e => ?_, r.len, r.nd, r.fr, fun a u e => ?_, fun i c e => ?_⟩
  · rw [upd_ne (ne_of_none (r.sub a u e) hp)]; exact r.sub a u e
  · obtain ⟨e1, e2, e3⟩ := r.pr a u e
    exact ⟨by rw [upd_ne (ne_of_none e1 hp)]; exact e1, e2, e3⟩
  · obtain ⟨a, e1, e2⟩ := r.cell i c e
    obtain ⟨u, e3⟩ := e2.some
    exact ⟨a, e1, e2.keep (upd_ne (ne_of_none e3 hp))⟩
theorem snoc_get {α : Type} {l : List α} {x : α} {i : Nat} {y : α} (h : (l ++ [x])[i]? = some y) : l[i]? = some y ∨ (i = l.length ∧ y = x) := by
  by_cases hi : i < l.length
  · rw [List.getElem?_append_left hi] at h; exact .inl h
  · have hl := (List.getElem?_eq_some_iff.mp h).1
    simp at hl
    have e : i = l.length := by omega
    subst e
    simp at h
    exact .inr ⟨rfl, h.symm⟩
/-- a new cell -/
theorem Rel.newC (r : Rel X L H st) {p : Addr} {o : HO} {c : Cell} (hp : H p = none) (hc : CellR X L (upd H p o) c p) :
    L.le { L with m := L.m ++ [p] } ∧ Rel X { L with m := L.m ++ [p] } (upd H p o) (st ++ [c]) ∧ (L.m ++ [p])[st.length]? = some p := by
  have le : L.le { L with m := L.m ++ [p] } := ⟨fun _ _ h => h, fun i a e => by
    show (L.m ++ [p])[i]? = some a
    rw [List.getElem?_append_left (List.getElem?_eq_some_iff.mp e).1]; exact e, rfl⟩
  refine ⟨le, ⟨fun a u e => ?_, by simp [r.len], ?_, fun a ha => ?_, fun a u e => ?_, fun i c' e => ?_⟩, by rw [← r.len]; simp⟩
  · have e' := r.sub a u e
    rw [upd_ne (ne_of_none e' hp)]; exact e'
  · refine List.nodup_append.mpr ⟨r.nd, by simp, fun a ha b hb => ?_⟩
    have : b = p := by simpa using hb
    subst this
    obtain ⟨u, e⟩ := r.mem_some ha
    exact ne_of_none e hp
  · rcases List.mem_append.mp ha with ha | ha
    · exact r.fr a ha
    · have : a = p := by simpa using ha
      subst this
      show L.F a = none
      cases q : L.F a with
      | none => rfl
      | some u => rw [r.sub a u q] at hp; cases hp
  · obtain ⟨e1, e2, e3⟩ := r.pr a u e
    have ne := ne_of_none e1 hp
    exact ⟨by rw [upd_ne ne]; exact e1, e2, fun hm => (List.mem_append.mp hm).elim e3 fun z => ne (by simpa using z)⟩
  · rcases snoc_get e with e | ⟨e, e'⟩
    · obtain ⟨a, e1, e2⟩ := r.cell i c' e
      obtain ⟨u, e3⟩ := e2.some
      exact ⟨a, le.m i a e1, (e2.mono le).keep (upd_ne (ne_of_none e3 hp))⟩
    · subst e; subst e'
      exact ⟨p, by show (L.m ++ [p])[st.length]? = some p; rw [← r.len]; simp, hc.mono le⟩
theorem nodup_at {l : List Addr} (h : l.Nodup) {i j : Nat} {a : Addr} (hi : l[i]? = some a) (hj : l[j]? = some a) : i = j := by
  obtain ⟨h1, e1⟩ := List.getElem?_eq_some_iff.mp hi
  obtain ⟨h2, e2⟩ := List.getElem?_eq_some_iff.mp hj
  exact (List.getElem_inj h).mp (e1.trans e2.symm)
/-- a cell is written -/
theorem Rel.write (r : Rel X L H st) {i : Nat} {a : Addr} {o : HO} {c : Cell} (e : L.m[i]? = some a) (hc : CellR X L (upd H a o) c a) : Rel X L (upd H a o) (st.set i c) := by
  have hF : L.F a = none := r.fr a (List.mem_of_getElem? e)
  refine ⟨fun b u q => ?_, by simp [r.len], r.nd, r.fr, fun b u q => ?_, fun j d q => ?_⟩
  · rw [upd_ne (fun z => by rw [z, hF] at q; cases q)]; exact r.sub b u q
  · obtain ⟨e1, e2, e3⟩ := r.pr b u q
    exact ⟨by rw [upd_ne (fun z => e3 (by rw [z]; exact List.mem_of_getElem? e))]; exact e1, e2, e3⟩
  · rw [List.getElem?_set] at q
    by_cases h : i = j
    · subst h
      rw [if_pos rfl] at q
      by_cases hl : i < st.length
      · rw [if_pos hl] at q; cases q
        exact ⟨a, e, hc⟩
      · rw [if_neg hl] at q; cases q
    · rw [if_neg h] at q
      obtain ⟨b, e1, e2⟩ := r.cell j d q
      exact ⟨b, e1, e2.keep (upd_ne (fun z => h (nodup_at r.nd e (by rw [← z]; exact e1))))⟩
/-- something is held -/
theorem Rel.hold (r : Rel X L H st) {p : Addr} {o : HO} (hp : H p = some o) (hF : L.F p = none) (hm : p ∉ L.m) : Rel X { L with P := upd L.P p o } H st := by
  refine ⟨r.sub, r.len, r.nd, r.fr, fun a u e => ?_, fun i c e => ?_⟩
  · by_cases h : a = p
    · subst h
      have e' : upd L.P a o a = some u := e
      rw [upd_same] at e'; cases e'
      exact ⟨hp, hF, hm⟩
    · have e' : upd L.P p o a = some u := e
      rw [upd_ne h] at e'; exact r.pr a u e'
  · obtain ⟨a, e1, e2⟩ := r.cell i c e
    refine ⟨a, e1, ?_⟩
    cases c with
    | lst vs => obtain ⟨xs, q1, q2⟩ := e2; exact ⟨xs, q1, q2.anyP⟩
    | ins c ks vs => obtain ⟨dx, xs, q1, q2, q3, q4, q5⟩ := e2; exact ⟨dx, xs, q1, q2, q3, q4, q5.anyP⟩
    | dead => exact e2
/-- .. and let go -/
theorem Rel.drop (r : Rel X L H st) {P : Hp} (hP : ∀ a o, P a = some o → L.P a = some o) : Rel X { L with P := P } H st := by
  refine ⟨r.sub, r.len, r.nd, r.fr, fun a u e => r.pr a u (hP a u e), fun i c e => ?_⟩
  obtain ⟨a, e1, e2⟩ := r.cell i c e
  refine ⟨a, e1, ?_⟩
  cases c with
  | lst vs => obtain ⟨xs, q1, q2⟩ := e2; exact ⟨xs, q1, q2.anyP⟩
  | ins c ks vs => obtain ⟨dx, xs, q1, q2, q3, q4, q5⟩ := e2; exact ⟨dx, xs, q1, q2, q3, q4, q5.anyP⟩
  | dead => exact e2
theorem CellR.anyP {P : Hp} : ∀ {c : Cell} {a : Addr}, CellR X L H c a → CellR X { L with P := P } H c a
  | .lst _, _, ⟨xs, q1, q2⟩ => ⟨xs, q1, q2.anyP⟩
  | .ins _ _ _, _, ⟨dx, xs, q1, q2, q3, q4, q5⟩ => ⟨dx, xs, q1, q2, q3, q4, q5.anyP⟩
  | .dead, _, r => r
/-- what stands and belongs to nobody is written -/
theorem Rel.writeP (r : Rel X L H st) {p : Addr} {o : HO} (hF : L.F p = none) (hm : p ∉ L.m) (hP : L.P p = none) : Rel X L (upd H p o) st := by
  refine ⟨fun a u e => ?_, r.len, r.nd, r.fr, fun a u e => ?_, fun i c e => ?_⟩
  · rw [upd_ne (fun z => by rw [z, hF] at e; cases e)]; exact r.sub a u e
  · obtain ⟨e1, e2, e3⟩ := r.pr a u e
    exact ⟨by rw [upd_ne (fun z => by rw [z, hP] at e; cases e)]; exact e1, e2, e3⟩
  · obtain ⟨a, e1, e2⟩ := r.cell i c e
    exact ⟨a, e1, e2.keep (upd_ne (fun z => hm (by rw [← z]; exact List.mem_of_getElem? e1)))⟩
/-- what stands and belongs to nobody becomes a cell -/
theorem Rel.addC (r : Rel X L H st) {p : Addr} {c : Cell} (hF : L.F p = none) (hm : p ∉ L.m) (hP : L.P p = none) (hc : CellR X L H c p) :
    L.le { L with m := L.m ++ [p] } ∧ Rel X { L with m := L.m ++ [p] } H (st ++ [c]) ∧ (L.m ++ [p])[st.length]? = some p := by
  have le : L.le { L with m := L.m ++ [p] } := ⟨fun _ _ h => h, fun i a e => by
    show (L.m ++ [p])[i]? = some a
    rw [List.getElem?_append_left (List.getElem?_eq_some_iff.mp e).1]; exact e, rfl⟩
  refine ⟨le, ⟨r.sub, by simp [r.len], ?_, fun a ha => ?_, fun a u e => ?_, fun i c' e => ?_⟩, by rw [← r.len]; simp⟩
  · refine List.nodup_append.mpr ⟨r.nd, by simp, fun a ha b hb => ?_⟩
    have : b = p := by simpa using hb
    subst this
    exact fun z => hm (by rw [← z]; exact ha)
  · rcases List.mem_append.mp ha with ha | ha
    · exact r.fr a ha
    · have : a = p := by simpa using ha
      subst this
      exact hF
  · obtain ⟨e1, e2, e3⟩ := r.pr a u e
    refine ⟨e1, e2, fun hm' => (List.mem_append.mp hm').elim e3 fun z => ?_⟩
    have : a = p := by simpa using z
    rw [this, hP] at e; cases e
  · rcases snoc_get e with e | ⟨e, e'⟩
    · obtain ⟨a, e1, e2⟩ := r.cell i c' e
      exact ⟨a, le.m i a e1, e2.mono le⟩
    · subst e; subst e'
      exact ⟨p, by show (L.m ++ [p])[st.length]? = some p; rw [← r.len]; simp, hc.mono le⟩
end
end
end Ev

set_option Elab.async false
set_option linter.all false
set_option maxRecDepth 100000
set_option maxHeartbeats 2000000
/-! tuple times int, whatever the int. -/
namespace L2
open PySem PySem.Spec PyProof.Rows
theorem tuple_mul1 (l : Addr) (items : Array Value) (n : Nat) (sl : Array (Option Value)) (dd : Option Addr) (x : Int) (u : Tok) (c0 : (decide (x < -(2 ^ 63)) || decide (x ≥ 2 ^ 63)) = false) (c1 : (items.isEmpty || x == 1) = true) :
    Meets (Builtin.«tuple.__mul__» ⟨[.ref l, .int x u], []⟩) (fun _ R s => s.heap.get? l = some { cls := .type "tuple", dict := dd, data := .seq items n, slots := sl } ∧
      R (.ok (.ret (Value.ref l))) s) :=
  .of_wp fun prog w A R s h => by
    obtain ⟨hp, g, d, tk, os⟩ := s
    obtain ⟨hl, h⟩ := h
    have f1 := AutoSeq1.idx_int
    wp_walk using wpAny_loadPart' hl
    repeat (first
      | (refine wpAny_ite_false (decide_eq_false (by rw [c0]; exact Bool.false_ne_true)) ?_; wp_walk using wpAny_loadPart' hl)
      | (refine wpAny_ite_true (decide_eq_true (by rw [c1])) ?_; wp_walk using wpAny_loadPart' hl))
    exact ⟨_, rfl, h⟩
theorem tuple_mul0 (l : Addr) (items : Array Value) (n : Nat) (sl : Array (Option Value)) (dd : Option Addr) (x : Int) (u : Tok) (c0 : (decide (x < -(2 ^ 63)) || decide (x ≥ 2 ^ 63)) = false) (c1 : (items.isEmpty || x == 1) = false) (c2 : (decide (x ≤ 0) || items.isEmpty) = true) :
    Meets (Builtin.«tuple.__mul__» ⟨[.ref l, .int x u], []⟩) (fun _ R s => s.heap.get? l = some { cls := .type "tuple", dict := dd, data := .seq items n, slots := sl } ∧
      R (.ok (.ret (Value.ref s.heap.objs.size))) { s with heap := s.heap.push { cls := Value.type "tuple", data := Data.seq #[] }, toks := s.toks }) :=
  .of_wp fun prog w A R s h => by
    obtain ⟨hp, g, d, tk, os⟩ := s
    obtain ⟨hl, h⟩ := h
    have f1 := AutoSeq1.idx_int
    wp_walk using wpAny_loadPart' hl
    repeat (first
      | (refine wpAny_ite_false (decide_eq_false (by rw [c0]; exact Bool.false_ne_true)) ?_; wp_walk using wpAny_loadPart' hl)
      | (refine wpAny_ite_false (decide_eq_false (by rw [c1]; exact Bool.false_ne_true)) ?_; wp_walk using wpAny_loadPart' hl)
      | (refine wpAny_ite_true (decide_eq_true (by rw [c2])) ?_; wp_walk using wpAny_loadPart' hl))
    repeat (first
      | (refine wpAny_ite_false (decide_eq_false (Nat.not_lt.mpr (Nat.zero_le _))) ?_; wp_walk using wpAny_loadPart' hl))
    exact ⟨_, rfl, h⟩
def rRepA (K : PySem.W.Frag) : R2 := fun x y H Q => ∃ l k xs, x = .ref l ∧ y = .int k ∧ SqT K H l xs ∧ -(2 ^ 62) ≤ k ∧ k ≤ 1000 ∧ xs.length ≤ 1000 ∧ ((List.replicate k.toNat xs).flatten = xs → Q (.ref l) H) ∧ ∀ p, H p = none → Q (.ref p) (upd H p (.tup (List.replicate k.toNat xs).flatten))
section
variable {X : Cx}
theorem op_repA : OpR X (binaryOp .Mult) (rRepA X.K) := by
  intro pins s σ H x y v u Q I rx ry h
  obtain ⟨l, k, xs, rfl, rfl, hT, h1, h2, hz, q0, q⟩ := h
  by_cases hb : xs ≠ [] ∧ 2 ≤ k
  · exact op_repT pins s σ H _ _ v u Q I rx ry ⟨l, k, xs, rfl, rfl, hT, hb.1, hb.2, h2, hz, q⟩
  cases rx
  obtain ⟨t, rfl⟩ := ry
  obtain ⟨its, r, ⟨⟨cls, dd, data, sl⟩, ho, hc, n, hd⟩, hs⟩ := I.tuple hT
  simp only at hc hd
  subst hc hd
  have hle : its.length = xs.length := r.length.symm
  have c0 : (decide (k < -(2 ^ 63)) || decide (k ≥ 2 ^ 63)) = false := by
    rw [decide_eq_false (by omega), decide_eq_false (by omega)] <;> rfl
  by_cases hs1 : xs = [] ∨ k = 1
  · have c1 : (its.toArray.isEmpty || k == 1) = true := by
      rcases hs1 with e | e
      · have : its = [] := by
          rw [e] at hle
          exact List.eq_nil_of_length_eq_zero hle
        rw [this]; rfl
      · subst e; simp
    have eq : (List.replicate k.toNat xs).flatten = xs := by
      rcases hs1 with e | e
      · subst e; simp
      · subst e; simp
    refine wpAny_binaryOp_repeat_ref (T := "tuple") (U := "int") (by decide) ⟨_, ho, rfl⟩ (fun s' => typeIs_int s' k t) noFill_tuple_mul F.fills_int_mul F.slot_int_rmul repeat_tuple F.slot_int_index.lookup
      (call_meets F.slot_int_rmul (typeIs_int s k t) F.entry_int_rmul (F.args_int_rmul_2 _ _) (int_rmul_tuple k t l its.toArray n dd sl)
        ⟨ho, rfl, ⟨_, ho, rfl⟩, call_meets F.slot_tuple_mul ⟨_, ho, rfl⟩ F.entry_tuple_mul (F.args_tuple_mul_2 _ _) (tuple_mul1 l its.toArray n sl dd k t c0 c1) ⟨ho, ?_⟩⟩)
    exact ⟨.ref l, H, I, rfl, q0 eq⟩
  · have hxs : xs ≠ [] := fun e => hs1 (.inl e)
    have hk : k ≤ 0 := by
      rcases Int.lt_or_le k 2 with z | z
      · have : k ≠ 1 := fun e => hs1 (.inr e)
        omega
      · exact absurd ⟨hxs, z⟩ hb
    have hn : its ≠ [] := fun e => hxs (by
      rw [e] at hle
      exact List.eq_nil_of_length_eq_zero hle.symm)
    have hi : its.toArray.isEmpty = false := by
      cases its with
      | nil => exact absurd rfl hn
      | cons a b => rfl
    have c1 : (its.toArray.isEmpty || k == 1) = false := by
      rw [hi, Bool.false_or]
      exact beq_eq_false_iff_ne.mpr (by omega)
    have c2 : (decide (k ≤ 0) || its.toArray.isEmpty) = true := by
      rw [decide_eq_true hk, Bool.true_or]
    have eq : (List.replicate k.toNat xs).flatten = [] := by
      have : k.toNat = 0 := by omega
      rw [this]; rfl
    refine wpAny_binaryOp_repeat_ref (T := "tuple") (U := "int") (by decide) ⟨_, ho, rfl⟩ (fun s' => typeIs_int s' k t) noFill_tuple_mul F.fills_int_mul F.slot_int_rmul repeat_tuple F.slot_int_index.lookup
      (call_meets F.slot_int_rmul (typeIs_int s k t) F.entry_int_rmul (F.args_int_rmul_2 _ _) (int_rmul_tuple k t l its.toArray n dd sl)
        ⟨ho, rfl, ⟨_, ho, rfl⟩, call_meets F.slot_tuple_mul ⟨_, ho, rfl⟩ F.entry_tuple_mul (F.args_tuple_mul_2 _ _) (tuple_mul0 l its.toArray n sl dd k t c0 c1 c2) ⟨ho, ?_⟩⟩)
    refine ⟨.ref s.heap.objs.size, _, I.laid (t' := s.toks) (o := .tup (List.replicate k.toNat xs).flatten) (fun b ob q => Heap.get?_push_of_some _ q) (Nat.le_refl _) ?_, rfl, q _ (I.hok.fresh (Nat.le_refl _))⟩
    rw [eq]
    exact ⟨Nat.zero_le _, [], .nil, IsTup.new _ _⟩
end
end L2

set_option Elab.async false
set_option linter.all false
set_option maxRecDepth 100000
set_option maxHeartbeats 2000000
/-! Results against readings; expressions. -/
namespace Ev
open PySem PySem.Spec PyProof.Rows L2

/-- how an exception's fields lie -/
def XR (X : Fx) (L : Lg) (c : Nat) (ks : List Nat) (vs : List PV) (cls : Value) (d : Option Addr) : Prop :=
  cls = .ref (X.cA c) ∧ ∃ (xs : List V) (fs : List (Str × V)), (∀ k x, lookG k ks xs = some x → ∃ dd, d = some dd ∧ L.F dd = some (.xd fs) ∧ fs.lookup (X.aN k) = some x) ∧ ExOk X c ∧ Free X c ks ∧ (d = none ∨ ∃ dd fs', d = some dd ∧ L.F dd = some (.xd fs')) ∧ RVs X L vs xs
theorem XR.monoF {X : Fx} {L L' : Lg} (h : L.lef L') {c : Nat} {ks : List Nat} {vs : List PV} {cls : Value} {d : Option Addr} : XR X L c ks vs cls d → XR X L' c ks vs cls d
  | ⟨e, xs, fs, q, c, f, o, r⟩ => ⟨e, xs, fs, fun k x z => let ⟨dd, e1, e2, e3⟩ := q k x z; ⟨dd, e1, h.F _ _ e2, e3⟩, c, f, o.elim .inl (fun ⟨dd, fs', e1, e2⟩ => .inr ⟨dd, fs', e1, h.F _ _ e2⟩), r.monoF h⟩
theorem XR.mono {X : Fx} {L L' : Lg} (h : L.le L') {c : Nat} {ks : List Nat} {vs : List PV} {cls : Value} {d : Option Addr} (r : XR X L c ks vs cls d) : XR X L' c ks vs cls d := r.monoF h.f
/-- what a result says -/
def RP {α β : Type} (X : Fx) (L : Lg) (R : Lg → α → β → Prop) (W : WX) (σ : L2.St) (r : Res α) (Q : β → Hp → Prop) : Prop := match r with
  | .ok a st => ∀ (L' : Lg) (H' : Hp) (b : β), L.le L' → Rel X L' H' st → R L' a b → Q b H'
  | .exc c ks vs st => ∀ (L' : Lg) (H' : Hp) (cls : Value) (d : Option Addr), L.le L' → Rel X L' H' st → XR X L' c ks vs cls d → W cls d σ H'
  | .stuck => False
section
variable {X : Fx} {α β γ δ : Type} {L L' : Lg} {R : Lg → α → β → Prop} {R' : Lg → γ → δ → Prop} {W : WX} {σ : L2.St}
theorem RP.mono (h : L.le L') {r : Res α} {Q : β → Hp → Prop} (p : RP X L R W σ r Q) : RP X L' R W σ r Q := by
  cases r with
  | ok a st => exact fun L1 H1 b e => p L1 H1 b (h.trans e)
  | exc c ks vs st => exact fun L1 H1 cls d e => p L1 H1 cls d (h.trans e)
  | stuck => exact p
theorem RP.imp {r : Res α} {Q Q' : β → Hp → Prop} (p : RP X L R W σ r Q) (h : ∀ b H, Q b H → Q' b H) : RP X L R W σ r Q' := by
  cases r with
  | ok a st => exact fun L1 H1 b e r1 r2 => h _ _ (p L1 H1 b e r1 r2)
  | exc c ks vs st => exact p
  | stuck => exact p
/-- one result behind another -/
theorem RP.bind {r : Res γ} {g : γ → Store → Res α} {Q : β → Hp → Prop} (p : RP X L R W σ (r.bind g) Q) :
    RP X L R' W σ r (fun y H1 => ∃ (L1 : Lg) (a : γ) (st1 : Store), L.le L1 ∧ Rel X L1 H1 st1 ∧ R' L1 a y ∧ RP X L1 R W σ (g a st1) Q) := by
  cases r with
  | ok a st => exact fun L1 H1 b e r1 r2 => ⟨L1, a, st, e, r1, r2, RP.mono e p⟩
  | exc c ks vs st => exact p
  | stuck => exact p
/-- what is at hand -/
theorem RP.here {a : α} {st : Store} {H : Hp} {b : β} {Q : β → Hp → Prop} (p : RP X L R W σ (.ok a st) Q) (r : Rel X L H st) (h : R L a b) : Q b H := p L H b .rfl' r h
end
abbrev TEr (X : Fx) (J : Jd) (W : WX) (f : Frame → Store → Res PV) : TE := fun σ H Q =>
  ∃ (L : Lg) (fr : Frame) (st : Store), Rel X L H st ∧ FRel X J L fr σ ∧ RP X L (RV X) W σ (f fr st) Q
abbrev TAr (X : Fx) (J : Jd) (W : WX) (f : Frame → Store → Res (List PV)) : TA := fun σ H Q =>
  ∃ (L : Lg) (fr : Frame) (st : Store), Rel X L H st ∧ FRel X J L fr σ ∧ RP X L (RVs X) W σ (f fr st) Q
abbrev TTr (X : Fx) (J : Jd) (W : WX) (f : Frame → Store → Res PV) : TT := fun σ H Q =>
  ∃ (L : Lg) (fr : Frame) (st : Store), Rel X L H st ∧ FRel X J L fr σ ∧ RP X L (fun _ (a b : Bool) => a = b) W σ ((f fr st).bind fun v st1 => opt st1 (truth st1 v)) Q
/-- an expression does what f says, whatever is wished of exceptions -/
def PEr (X : Fx) (J : Jd) (C : Cx) (e : PySem.Expr) (f : Frame → Store → Res PV) : Prop := ∀ W, Takes C W → PE C e (TEr X J W f)
def PAr (X : Fx) (J : Jd) (C : Cx) (es : List PySem.Expr) (f : Frame → Store → Res (List PV)) : Prop := ∀ W, Takes C W → PA C es (TAr X J W f)
def PTr (X : Fx) (J : Jd) (C : Cx) (e : PySem.Expr) (f : Frame → Store → Res PV) : Prop := ∀ W, Takes C W → PT C e (TTr X J W f)

section
variable {C : Cx} {e : PySem.Expr} {es : List PySem.Expr}
theorem PE.imp {t u : TE} (h : PE C e t) (i : ∀ σ H Q, u σ H Q → t σ H Q) : PE C e u := ⟨fun pins s σ H Q I q => h.run pins s σ H Q I (i σ H Q q)⟩
theorem PA.imp {t u : TA} (h : PA C es t) (i : ∀ σ H Q, u σ H Q → t σ H Q) : PA C es u := ⟨fun pos pins s σ H Q I q => h.run pos pins s σ H Q I (i σ H Q q)⟩
theorem PT.imp {t u : TT} (h : PT C e t) (i : ∀ σ H Q, u σ H Q → t σ H Q) : PT C e u := ⟨fun pins s σ H Q I q => h.run pins s σ H Q I (i σ H Q q)⟩
theorem PW.imp {t u : TT} (h : PW C e t) (i : ∀ σ H Q, u σ H Q → t σ H Q) : PW C e u := ⟨fun wh pins s σ H Q I q => h.run wh pins s σ H Q I (i σ H Q q)⟩
theorem PS.imp {st : Stmt} {t u : TS} (h : PS C st t) (i : ∀ D σ H, u D σ H → t D σ H) : PS C st u := ⟨fun pins s σ H D I q => h.run pins s σ H D I (i D σ H q)⟩
theorem PSs.imp {st : List Stmt} {t u : TS} (h : PSs C st t) (i : ∀ D σ H, u D σ H → t D σ H) : PSs C st u := ⟨fun pins s σ H D I q => h.run pins s σ H D I (i D σ H q)⟩
theorem PI.imp {tg it : PySem.Expr} {t u : TI} (h : PI C tg it t) (i : ∀ σ H Q, u σ H Q → t σ H Q) : PI C tg it u := ⟨fun pins s σ H Q I q => h.run pins s σ H Q I (i σ H Q q)⟩
end

/-! ### value-level rules, by two values -/
/-- two values, a result -/
abbrev R2r (X : Fx) (W : WX) (f : PV → PV → Store → Res PV) : R2 := fun x y H Q =>
  ∃ (L : Lg) (a b : PV) (st : Store) (σ : L2.St), Rel X L H st ∧ RV X L a x ∧ RV X L b y ∧ RP X L (RV X) W σ (f a b st) Q
section
variable {X : Fx} {J : Jd} {C : Cx} {a b c : PySem.Expr} {fa fb fc : Frame → Store → Res PV} {pos : Pos}
theorem r2_of {W : WX} {f : PV → PV → Store → Res PV} {σ : L2.St} {H : Hp} {Q : VK}
    (h : TEr X J W (fun fr st => (fa fr st).bind fun x st1 => (fb fr st1).bind fun y st2 => f x y st2) σ H Q) : tOp (R2r X W f) (TEr X J W fa) (TEr X J W fb) σ H Q := by
  obtain ⟨L, fr, st, hR, hF, hp⟩ := h
  refine ⟨L, fr, st, hR, hF, RP.imp (RP.bind hp) ?_⟩
  rintro x H1 ⟨L1, va, st1, le1, hR1, ra, hp1⟩
  refine ⟨L1, fr, st1, hR1, hF.mono le1, RP.imp (RP.bind hp1) ?_⟩
  rintro y H2 ⟨L2, vb, st2, le2, hR2, rb, hp2⟩
  exact ⟨L2, va, vb, st2, σ, hR2, ra.mono le2, rb, hp2⟩
theorem per_op {op : Operator} {f : PV → PV → Store → Res PV} (ho : ∀ W, OpR C (binaryOp op) (R2r X W f)) (ha : PEr X J C a fa) (hb : PEr X J C b fb) :
    PEr X J C (.BinOp a op b pos) (fun fr st => (fa fr st).bind fun x st1 => (fb fr st1).bind fun y st2 => f x y st2) := fun W tk =>
  PE.imp (pe_op (ho W) (ha W tk) (hb W tk)) fun _ _ _ h => r2_of h
theorem per_cmp {op : CmpOp} {f : PV → PV → Store → Res PV} (ho : ∀ W, Takes C W → OpR C (compareOp op) (R2r X W f)) (ha : PEr X J C a fa) (hb : PEr X J C b fb) (hm : behindInMarks op b = false) :
    PEr X J C (.Compare a [op] [b] pos) (fun fr st => (fa fr st).bind fun x st1 => (fb fr st1).bind fun y st2 => f x y st2) := fun W tk =>
  PE.imp (pe_cmpR (ho W tk) (ha W tk) (hb W tk) hm) fun _ _ _ h => r2_of h
/-! ### the operators -/
theorem lineOk {n : Nat} (h : sizeOk n = true) : n ≤ sizeLine := by
  have e := of_decide_eq_true h
  have : sizeLine = 16777216 := rfl
  omega
theorem RV.sqT {L : Lg} {H : Hp} {st : Store} (hR : Rel X L H st) {vs : List PV} {x : V} (r : RV X L (.tup vs) x) : ∃ a xs, x = .ref a ∧ SqT X.K H a xs ∧ RVs X L vs xs := by
  cases r with
  | tup e r => exact ⟨_, _, rfl, .inl (.inl (hR.sub _ _ e)), r⟩
  | ktup e r => exact ⟨_, _, rfl, .inr e, r⟩
theorem cell_lst {L : Lg} {H : Hp} {st : Store} (hR : Rel X L H st) {i : Nat} {a : Addr} {vs : List PV} (e : L.m[i]? = some a) (e2 : st[i]? = some (.lst vs)) : ∃ xs, H a = some (.lst xs) ∧ RVs X L vs xs := by
  obtain ⟨c, e3, q⟩ := hR.at e
  rw [e2] at e3; cases e3
  exact q
theorem cell_ins {L : Lg} {H : Hp} {st : Store} (hR : Rel X L H st) {i : Nat} {a : Addr} {c : Nat} {ks : List Nat} {vs : List PV} (e : L.m[i]? = some a) (e2 : st[i]? = some (.ins c ks vs)) :
    ∃ dx xs, H a = some (.ins (X.cA c) dx (prs X ks xs)) ∧ ks.length = xs.length ∧ ClsOk X c ∧ Free X c ks ∧ RVs X L vs xs := by
  obtain ⟨c', e3, q⟩ := hR.at e
  rw [e2] at e3; cases e3
  exact q
/-- a new list -/
theorem new_list {L : Lg} {H : Hp} {st : Store} (hR : Rel X L H st) {W : WX} {σ : L2.St} {Q : VK} {vs : List PV} {xs : List V} (r : RVs X L vs xs) (hp : RP X L (RV X) W σ (newL st vs) Q) :
    xs.length ≤ sizeLine ∧ ∀ p, H p = none → Q (.ref p) (upd H p (.lst xs)) := by
  unfold newL at hp
  by_cases hz : sizeOk vs.length = true
  · rw [if_pos hz] at hp
    refine ⟨by rw [← r.length]; exact lineOk hz, fun p np => ?_⟩
    obtain ⟨le, hR', e⟩ := hR.newC (o := .lst xs) (c := .lst vs) np ⟨xs, upd_same, r⟩
    exact hp _ _ _ le hR' (.obj e)
  · rw [if_neg hz] at hp; exact hp.elim
theorem new_tup {L : Lg} {H : Hp} {st : Store} (hR : Rel X L H st) {W : WX} {σ : L2.St} {Q : VK} {vs : List PV} {xs : List V} (r : RVs X L vs xs) (hp : RP X L (RV X) W σ (.ok (.tup vs) st) Q) :
    ∀ p, H p = none → Q (.ref p) (upd H p (.tup xs)) := fun p np => by
  obtain ⟨le, hR'⟩ := hR.newF (o := .tup xs) np
  exact hp _ _ _ le hR' (.tup (by show upd L.F p (.tup xs) p = _; rw [upd_same]) (r.mono le))
theorem or_add {W : WX} (hK : C.K = X.K) : OpR C (binaryOp .Add) (R2r X W (binop .add)) := by
  rintro pins s σ H x y v u Q I rx ry ⟨L, a, b, st, σ0, hR, ha, hb, hp⟩
  cases a <;> cases b <;> try exact hp.elim
  case int.int i j =>
    cases ha; cases hb
    exact op_add pins s σ H _ _ v u Q I rx ry ⟨i, j, rfl, rfl, hp.here hR (.int _)⟩
  case str.str i j =>
    cases ha; cases hb
    unfold binop at hp
    by_cases hz : sizeOk (i.length + j.length) = true
    · simp only [hz, if_true] at hp
      exact op_add_str pins s σ H _ _ v u Q I rx ry ⟨i, j, rfl, rfl, lineOk hz, hp.here hR (.str _)⟩
    · simp only [hz] at hp; exact hp.elim
  case tup.tup vs ws =>
    obtain ⟨p, xs, rfl, hx, rx'⟩ := ha.sqT hR
    obtain ⟨q, ys, rfl, hy, ry'⟩ := hb.sqT hR
    unfold binop newT at hp
    by_cases hz : sizeOk (vs ++ ws).length = true
    · simp only [hz, if_true] at hp
      have hz' := lineOk hz
      rw [List.length_append, rx'.length, ry'.length] at hz'
      refine op_catA pins s σ H _ _ v u Q I rx ry ⟨p, q, xs, ys, rfl, rfl, by rw [hK]; exact hx, by rw [hK]; exact hy, hz', fun e => ?_, fun _ e => ?_, fun _ _ => new_tup hR (rx'.append ry') hp⟩
      · have : vs = [] := by rw [e] at rx'; cases rx'; rfl
        subst this
        exact hp.here hR hb
      · have : ws = [] := by rw [e] at ry'; cases ry'; rfl
        subst this
        rw [List.append_nil] at hp
        exact hp.here hR ha
    · simp only [hz] at hp; exact hp.elim
  case obj.obj i j =>
    cases ha with
    | obj ea => cases hb with
      | obj eb =>
        unfold binop at hp
        cases e1 : st[i]? with
        | none => simp only [e1] at hp; exact hp.elim
        | some c1 => cases c1 with
          | lst vs =>
            cases e2 : st[j]? with
            | none => simp only [e1, e2] at hp; exact hp.elim
            | some c2 => cases c2 with
              | lst ws =>
                simp only [e1, e2] at hp
                obtain ⟨xs, h1, r1⟩ := cell_lst hR ea e1
                obtain ⟨ys, h2, r2⟩ := cell_lst hR eb e2
                obtain ⟨hz, hq⟩ := new_list hR (r1.append r2) hp
                exact op_cat pins s σ H _ _ v u Q I rx ry ⟨_, _, xs, ys, rfl, rfl, h1, h2, by rw [List.length_append] at hz; exact hz, hq⟩
              | ins _ _ _ => simp only [e1, e2] at hp; exact hp.elim
              | dead => simp only [e1, e2] at hp; exact hp.elim
          | ins _ _ _ => simp only [e1] at hp; exact hp.elim
          | dead => simp only [e1] at hp; exact hp.elim
theorem ifs {α : Type} {c : Bool} {a b : α} (h : c = true) : (if c = true then a else b) = a := if_pos h
theorem or_sub {W : WX} : OpR C (binaryOp .Sub) (R2r X W (binop .sub)) := by
  rintro pins s σ H x y v u Q I rx ry ⟨L, a, b, st, σ0, hR, ha, hb, hp⟩
  cases a <;> cases b <;> try exact hp.elim
  cases ha; cases hb
  exact op_sub pins s σ H _ _ v u Q I rx ry ⟨_, _, rfl, rfl, hp.here hR (.int _)⟩
theorem or_mul {W : WX} (hK : C.K = X.K) : OpR C (binaryOp .Mult) (R2r X W (binop .mul)) := by
  rintro pins s σ H x y v u Q I rx ry ⟨L, a, b, st, σ0, hR, ha, hb, hp⟩
  cases a <;> cases b <;> try exact hp.elim
  case int.int i j =>
    cases ha; cases hb
    unfold binop at hp
    by_cases hz : mulOk i j = true
    · simp only [hz, if_true] at hp
      exact op_mulW pins s σ H _ _ v u Q I rx ry ⟨i, j, rfl, rfl, (by have z := of_decide_eq_true (show decide (i.natAbs.log2 + j.natAbs.log2 < 1000000) = true from hz); exact z), hp.here hR (.int _)⟩
    · simp only [hz] at hp; exact hp.elim
  case tup.int vs k =>
    obtain ⟨p, xs, rfl, hx, rx'⟩ := ha.sqT hR
    cases hb
    unfold binop at hp
    by_cases hz : (decide (-(2 ^ 62) ≤ k) && (decide (k ≤ 1000) && decide (vs.length ≤ 1000))) = true
    · simp only [hz, if_true] at hp
      simp only [Bool.and_eq_true, decide_eq_true_eq] at hz
      refine op_repA pins s σ H _ _ v u Q I rx ry ⟨p, k, xs, rfl, rfl, by rw [hK]; exact hx, hz.1, hz.2.1, by rw [← rx'.length]; exact hz.2.2, fun e => ?_, new_tup hR (rx'.flat _) hp⟩
      have : reps k.toNat vs = vs := by
        have l := congrArg List.length e
        rw [PyProof.Rows.lm_len_rep_flat] at l
        rcases Nat.eq_zero_or_pos xs.length with z | z
        · have e0 : vs = [] := List.eq_nil_of_length_eq_zero (rx'.length.trans z)
          subst e0; simp [reps]
        · have h1 : k.toNat = 1 := Nat.eq_of_mul_eq_mul_right z (by rw [l, Nat.one_mul])
          rw [h1]; simp [reps]
      rw [this] at hp
      exact hp.here hR ha
    · simp only [hz] at hp; exact hp.elim
  case obj.int i k =>
    cases ha with
    | obj ea =>
      cases hb
      unfold binop at hp
      cases e1 : st[i]? with
      | none => simp only [e1] at hp; exact hp.elim
      | some c1 => cases c1 with
        | lst vs =>
          simp only [e1] at hp
          by_cases hz : (decide (-(2 ^ 63) ≤ k) && (decide (k < 2 ^ 63) && sizeOk (vs.length * k.toNat))) = true
          · simp only [hz, if_true] at hp
            simp only [Bool.and_eq_true, decide_eq_true_eq] at hz
            obtain ⟨xs, h1, r1⟩ := cell_lst hR ea e1
            obtain ⟨hz', hq⟩ := new_list hR (r1.flat k.toNat) hp
            exact op_rep pins s σ H _ _ v u Q I rx ry ⟨_, k, xs, rfl, rfl, h1, hz.1, hz.2.1, by rw [← r1.length]; exact lineOk hz.2.2, hq⟩
          · simp only [hz] at hp; exact hp.elim
        | ins _ _ _ => simp only [e1] at hp; exact hp.elim
        | dead => simp only [e1] at hp; exact hp.elim
theorem or_mod {W : WX} : OpR C (binaryOp .Mod) (R2r X W (binop .mod)) := by
  rintro pins s σ H x y v u Q I rx ry ⟨L, a, b, st, σ0, hR, ha, hb, hp⟩
  cases a <;> cases b <;> try exact hp.elim
  rename_i i j
  cases ha; cases hb
  unfold binop at hp
  by_cases hz : j = 0
  · simp only [hz, if_true] at hp; exact hp.elim
  · simp only [hz, if_false] at hp
    exact op_modN pins s σ H _ _ v u Q I rx ry ⟨i, j, rfl, rfl, hz, hp.here hR (.int _)⟩
theorem op_fdivA : OpR C (binaryOp .FloorDiv) (rI (fun _ j => j ≠ 0 ∧ j.natAbs.log2 < 9000) fun i j => .int (i.fdiv j)) := opI fun i j _ _ _ _ _ hc q => by
  exact floordiv_int hc.1 q (.inl (PyProof.noPylong_of_log2 hc.2))
theorem or_fdiv {W : WX} : OpR C (binaryOp .FloorDiv) (R2r X W (binop .fdiv)) := by
  rintro pins s σ H x y v u Q I rx ry ⟨L, a, b, st, σ0, hR, ha, hb, hp⟩
  cases a <;> cases b <;> try exact hp.elim
  rename_i i j
  cases ha; cases hb
  unfold binop at hp
  by_cases hz : divOk j = true
  · simp only [hz, if_true] at hp
    simp only [divOk, Bool.and_eq_true, decide_eq_true_eq] at hz
    exact op_fdivA pins s σ H _ _ v u Q I rx ry ⟨i, j, rfl, rfl, hz, hp.here hR (.int _)⟩
  · simp only [hz] at hp; exact hp.elim
theorem or_pow {W : WX} : OpR C (binaryOp .Pow) (R2r X W (binop .pow)) := by
  rintro pins s σ H x y v u Q I rx ry ⟨L, a, b, st, σ0, hR, ha, hb, hp⟩
  cases a <;> cases b <;> try exact hp.elim
  rename_i i j
  cases ha; cases hb
  unfold binop at hp
  by_cases hz : (decide (0 ≤ j) && (decide (j ≤ 1000000) && decide (i.natAbs < 2 ^ 64))) = true
  · simp only [hz, if_true] at hp
    simp only [Bool.and_eq_true, decide_eq_true_eq] at hz
    exact op_pow pins s σ H _ _ v u Q I rx ry ⟨i, j, rfl, rfl, hz, hp.here hR (.int _)⟩
  · simp only [hz] at hp; exact hp.elim
theorem or_shl {W : WX} : OpR C (binaryOp .LShift) (R2r X W (binop .shl)) := by
  rintro pins s σ H x y v u Q I rx ry ⟨L, a, b, st, σ0, hR, ha, hb, hp⟩
  cases a <;> cases b <;> try exact hp.elim
  rename_i i j
  cases ha; cases hb
  unfold binop at hp
  by_cases hz : (decide (0 ≤ j) && (decide (j ≤ 1000000) && decide (i.natAbs < 2 ^ 64))) = true
  · simp only [hz, if_true] at hp
    simp only [Bool.and_eq_true, decide_eq_true_eq] at hz
    exact op_shl pins s σ H _ _ v u Q I rx ry ⟨i, j, rfl, rfl, hz, hp.here hR (.int _)⟩
  · simp only [hz] at hp; exact hp.elim
theorem or_shr {W : WX} : OpR C (binaryOp .RShift) (R2r X W (binop .shr)) := by
  rintro pins s σ H x y v u Q I rx ry ⟨L, a, b, st, σ0, hR, ha, hb, hp⟩
  cases a <;> cases b <;> try exact hp.elim
  rename_i i j
  cases ha; cases hb
  unfold binop at hp
  by_cases hz : 0 ≤ j
  · simp only [hz, if_true] at hp
    exact op_shr pins s σ H _ _ v u Q I rx ry ⟨i, j, rfl, rfl, hz, hp.here hR (.int _)⟩
  · simp only [hz] at hp; exact hp.elim
theorem or_band {W : WX} : OpR C (binaryOp .BitAnd) (R2r X W (binop .band)) := by
  rintro pins s σ H x y v u Q I rx ry ⟨L, a, b, st, σ0, hR, ha, hb, hp⟩
  cases a <;> cases b <;> try exact hp.elim
  cases ha; cases hb
  exact op_and pins s σ H _ _ v u Q I rx ry ⟨_, _, rfl, rfl, hp.here hR (.int _)⟩
theorem or_bxor {W : WX} : OpR C (binaryOp .BitXor) (R2r X W (binop .bxor)) := by
  rintro pins s σ H x y v u Q I rx ry ⟨L, a, b, st, σ0, hR, ha, hb, hp⟩
  cases a <;> cases b <;> try exact hp.elim
  cases ha; cases hb
  exact op_xor pins s σ H _ _ v u Q I rx ry ⟨_, _, rfl, rfl, hp.here hR (.int _)⟩
def bopOf : BOp → Operator
  | .add => .Add | .sub => .Sub | .mul => .Mult | .mod => .Mod | .fdiv => .FloorDiv | .pow => .Pow | .band => .BitAnd | .bxor => .BitXor | .shl => .LShift | .shr => .RShift
theorem or_bin {W : WX} (hK : C.K = X.K) : ∀ o, OpR C (binaryOp (bopOf o)) (R2r X W (binop o))
  | .add => or_add hK | .sub => or_sub | .mul => or_mul hK | .mod => or_mod | .fdiv => or_fdiv | .pow => or_pow | .band => or_band | .bxor => or_bxor | .shl => or_shl | .shr => or_shr

/-! ### == and in -/
theorem dpall_of {L : Lg} {H : Hp} {f : PV → Option PyData} (h : ∀ (v : PV) (d : PyData) (x : V), f v = some d → RV X L v x → Dp X.K H x d) :
    ∀ {vs : List PV} {ds : List PyData} {xs : List V}, omap f vs = some ds → RVs X L vs xs → DpAll X.K H xs ds
  | [], ds, _, e, .nil => by cases e; exact .nil
  | v :: vs, ds, _, e, .cons a r => by
    unfold omap at e
    cases e1 : f v with
    | none => rw [e1] at e; cases e
    | some d =>
      cases e2 : omap f vs with
      | none => rw [e1, e2] at e; cases e
      | some es =>
        rw [e1, e2] at e; cases e
        exact .cons (h _ _ _ e1 a) (dpall_of h e2 r)
theorem dp_of {L : Lg} {H : Hp} {st : Store} (hR : Rel X L H st) : ∀ (n : Nat) (v : PV) (d : PyData) (x : V), toD n st v = some d → RV X L v x → Dp X.K H x d
  | 0, _, _, _, e, _ => by cases e
  | n + 1, v, d, x, e, r => by
    have ih := dp_of hR n
    cases v with
    | non => cases e; cases r; exact .non
    | bl b => cases e; cases r; exact .bl b
    | int i => cases e; cases r; exact .int i
    | str s => cases e; cases r; exact .str s
    | tup vs =>
      simp only [toD] at e
      cases e1 : omap (toD n st) vs with
      | none => rw [e1] at e; cases e
      | some ds =>
        rw [e1] at e; cases e
        obtain ⟨a, xs, rfl, hx, rx⟩ := r.sqT hR
        exact .tup hx (dpall_of ih e1 rx)
    | flst vs =>
      simp only [toD] at e
      cases e1 : omap (toD n st) vs with
      | none => rw [e1] at e; cases e
      | some ds =>
        rw [e1] at e; cases e
        cases r with
        | flst h1 h2 => exact .lst (.inl (.inr ⟨_, hR.sub _ _ h1⟩)) (dpall_of ih e1 h2)
        | kflst h1 h2 => exact .lst (.inr h1) (dpall_of ih e1 h2)
    | obj i =>
      simp only [toD] at e
      cases e1 : st[i]? with
      | none => simp only [e1] at e; cases e
      | some c => cases c with
        | lst vs =>
          simp only [e1] at e
          cases e2 : omap (toD n st) vs with
          | none => rw [e2] at e; cases e
          | some ds =>
            rw [e2] at e; cases e
            cases r with
            | obj h1 =>
              obtain ⟨xs, h2, h3⟩ := cell_lst hR h1 e1
              exact .lst (.inl (.inl h2)) (dpall_of ih e2 h3)
        | ins _ _ _ => simp only [e1] at e; cases e
        | dead => simp only [e1] at e; cases e
    | ins _ _ _ => cases e
theorem plainall_of {f : PV → Option PyData} {n : Nat} (h : ∀ (v : PV) (d : PyData), f v = some d → d.plain = true ∧ d.depth ≤ n) :
    ∀ {vs : List PV} {ds : List PyData}, omap f vs = some ds → PyData.plainAll ds = true ∧ PyData.depthAll ds ≤ n
  | [], ds, e => by cases e; exact ⟨rfl, Nat.zero_le _⟩
  | v :: vs, ds, e => by
    unfold omap at e
    cases e1 : f v with
    | none => rw [e1] at e; cases e
    | some d =>
      cases e2 : omap f vs with
      | none => rw [e1, e2] at e; cases e
      | some es =>
        rw [e1, e2] at e; cases e
        obtain ⟨a1, a2⟩ := h _ _ e1
        obtain ⟨b1, b2⟩ := plainall_of h e2
        exact ⟨by simp only [PyData.plainAll, a1, b1]; rfl, by simp only [PyData.depthAll]; omega⟩
theorem plain_of {st : Store} : ∀ (n : Nat) (v : PV) (d : PyData), toD n st v = some d → d.plain = true ∧ d.depth ≤ n
  | 0, _, _, e => by cases e
  | n + 1, v, d, e => by
    have ih := plain_of (st := st) n
    cases v with
    | non => cases e; exact ⟨rfl, Nat.zero_le _⟩
    | bl b => cases e; exact ⟨rfl, Nat.zero_le _⟩
    | int i => cases e; exact ⟨rfl, Nat.zero_le _⟩
    | str s => cases e; exact ⟨rfl, Nat.zero_le _⟩
    | tup vs =>
      simp only [toD] at e
      cases e1 : omap (toD n st) vs with
      | none => rw [e1] at e; cases e
      | some ds =>
        rw [e1] at e; cases e
        obtain ⟨a, b⟩ := plainall_of ih e1
        exact ⟨by simpa only [PyData.plain] using a, by simp only [PyData.depth]; omega⟩
    | flst vs =>
      simp only [toD] at e
      cases e1 : omap (toD n st) vs with
      | none => rw [e1] at e; cases e
      | some ds =>
        rw [e1] at e; cases e
        obtain ⟨a, b⟩ := plainall_of ih e1
        exact ⟨by simpa only [PyData.plain] using a, by simp only [PyData.depth]; omega⟩
    | obj i =>
      simp only [toD] at e
      cases e1 : st[i]? with
      | none => simp only [e1] at e; cases e
      | some c => cases c with
        | lst vs =>
          simp only [e1] at e
          cases e2 : omap (toD n st) vs with
          | none => rw [e2] at e; cases e
          | some ds =>
            rw [e2] at e; cases e
            obtain ⟨a, b⟩ := plainall_of ih e2
            exact ⟨by simpa only [PyData.plain] using a, by simp only [PyData.depth]; omega⟩
        | ins _ _ _ => simp only [e1] at e; cases e
        | dead => simp only [e1] at e; cases e
    | ins _ _ _ => cases e
/-- the data of a value stand in the heap -/
theorem reads_of (hK : C.K = X.K) {L : Lg} {H : Hp} {st : Store} (hR : Rel X L H st) {pins : List (Addr × Obj)} {s : Shared} {σ : L2.St} (I : Inv C pins σ H s) {n : Nat} {v : PV} {d : PyData} {x : V} {u : Value}
    (e : toD n st v = some d) (r : RV X L v x) (ru : RelV x u) : ∃ as, Reads s.heap u d as := Dp.reads I d x u (by rw [hK]; exact dp_of hR n v d x e r) ru
theorem or_eq {W : WX} (hK : C.K = X.K) (hu : C.A.units + 64 < cLine) : OpR C (compareOp .Eq) (R2r X W (cmpop .eq)) := by
  rintro pins s σ H x y v u Q I rx ry ⟨L, a, b, st, σ0, hR, ha, hb, hp⟩
  unfold cmpop pyEq at hp
  cases e1 : toD dDepth st a with
  | none => simp only [e1] at hp; exact hp.elim
  | some d => cases e2 : toD dDepth st b with
    | none => simp only [e1, e2] at hp; exact hp.elim
    | some e =>
      simp only [e1, e2] at hp
      obtain ⟨as, r1⟩ := reads_of hK hR I e1 ha rx
      obtain ⟨bs, r2⟩ := reads_of hK hR I e2 hb ry
      obtain ⟨p1, q1⟩ := plain_of _ _ _ e1
      obtain ⟨p2, q2⟩ := plain_of _ _ _ e2
      have : dDepth = 12 := rfl
      exact SeqAt.eq_plain r1 r2 p1 p2 (by omega) ⟨.bl _, H, I, rfl, hp.here hR (.bl _)⟩
theorem or_ne {W : WX} (hK : C.K = X.K) (hu : C.A.units + 64 < cLine) : OpR C (compareOp .NotEq) (R2r X W (cmpop .ne)) := by
  rintro pins s σ H x y v u Q I rx ry ⟨L, a, b, st, σ0, hR, ha, hb, hp⟩
  unfold cmpop pyEq at hp
  cases e1 : toD dDepth st a with
  | none => simp only [e1] at hp; exact hp.elim
  | some d => cases e2 : toD dDepth st b with
    | none => simp only [e1, e2] at hp; exact hp.elim
    | some e =>
      simp only [e1, e2] at hp
      obtain ⟨as, r1⟩ := reads_of hK hR I e1 ha rx
      obtain ⟨bs, r2⟩ := reads_of hK hR I e2 hb ry
      obtain ⟨p1, q1⟩ := plain_of _ _ _ e1
      obtain ⟨p2, q2⟩ := plain_of _ _ _ e2
      have : dDepth = 12 := rfl
      exact SeqAt.ne_plain r1 r2 p1 p2 (by omega) ⟨.bl _, H, I, rfl, hp.here hR (.bl _)⟩
theorem or_in {W : WX} (hK : C.K = X.K) (hu : C.A.units + 64 < cLine) : OpR C (compareOp .In) (R2r X W (cmpop .inn)) := by
  rintro pins s σ H x y v u Q I rx ry ⟨L, a, b, st, σ0, hR, ha, hb, hp⟩
  unfold cmpop isIn at hp
  cases e1 : toD dDepth st a with
  | none => simp only [e1] at hp; exact hp.elim
  | some d => cases e2 : toD dDepth st b with
    | none => simp only [e1, e2] at hp; exact hp.elim
    | some e =>
      obtain ⟨as, r1⟩ := reads_of hK hR I e1 ha rx
      obtain ⟨bs, r2⟩ := reads_of hK hR I e2 hb ry
      obtain ⟨p1, q1⟩ := plain_of _ _ _ e1
      obtain ⟨p2, q2⟩ := plain_of _ _ _ e2
      have : dDepth = 12 := rfl
      cases e <;> simp only [e1, e2] at hp <;> try exact hp.elim
      · exact SeqAt.in_list_data r2 r1 p2 p1 (by omega) ⟨.bl _, H, I, rfl, hp.here hR (.bl _)⟩
      · exact SeqAt.in_tuple_data r2 r1 p2 p1 (by omega) ⟨.bl _, H, I, rfl, hp.here hR (.bl _)⟩
theorem or_notin {W : WX} (hK : C.K = X.K) (hu : C.A.units + 64 < cLine) : OpR C (compareOp .NotIn) (R2r X W (cmpop .notin)) := by
  rintro pins s σ H x y v u Q I rx ry ⟨L, a, b, st, σ0, hR, ha, hb, hp⟩
  unfold cmpop isIn at hp
  cases e1 : toD dDepth st a with
  | none => simp only [e1] at hp; exact hp.elim
  | some d => cases e2 : toD dDepth st b with
    | none => simp only [e1, e2] at hp; exact hp.elim
    | some e =>
      obtain ⟨as, r1⟩ := reads_of hK hR I e1 ha rx
      obtain ⟨bs, r2⟩ := reads_of hK hR I e2 hb ry
      obtain ⟨p1, q1⟩ := plain_of _ _ _ e1
      obtain ⟨p2, q2⟩ := plain_of _ _ _ e2
      have : dDepth = 12 := rfl
      cases e <;> simp only [e1, e2] at hp <;> try exact hp.elim
      · exact SeqAt.notIn_list_data r2 r1 p2 p1 (by omega) ⟨.bl _, H, I, rfl, hp.here hR (.bl _)⟩
      · exact SeqAt.notIn_tuple_data r2 r1 p2 p1 (by omega) ⟨.bl _, H, I, rfl, hp.here hR (.bl _)⟩
theorem or_ord {W : WX} {o : COp} {op : CmpOp} {g : Int → Int → Bool} (h : OpR C (compareOp op) (rI0 fun i j => .bl (g i j)))
    (e : ∀ a b st, cmpop o a b st = match a, b with
      | .int i, .int j => .ok (.bl (g i j)) st
      | _, _ => .stuck) : OpR C (compareOp op) (R2r X W (cmpop o)) := by
  rintro pins s σ H x y v u Q I rx ry ⟨L, a, b, st, σ0, hR, ha, hb, hp⟩
  rw [e] at hp
  cases a <;> cases b <;> try exact hp.elim
  cases ha; cases hb
  exact h pins s σ H _ _ v u Q I rx ry ⟨_, _, rfl, rfl, hp.here hR (.bl _)⟩
theorem RV.non_iff {L : Lg} {a : PV} {x : V} (r : RV X L a x) : decide (x = .non) = isNon a := by
  cases r <;> first | rfl | exact decide_eq_false (fun q => nomatch q)
theorem or_is {W : WX} : OpR C (compareOp .Is) (R2r X W (cmpop .is)) := by
  rintro pins s σ H x y v u Q I rx ry ⟨L, a, b, st, σ0, hR, ha, hb, hp⟩
  cases b <;> try exact hp.elim
  case non =>
    cases hb
    refine op_isN pins s σ H _ _ v u Q I rx ry ⟨rfl, ?_⟩
    rw [ha.non_iff]
    exact hp.here hR (.bl _)
  case bl k =>
    cases a <;> try exact hp.elim
    cases ha; cases hb
    exact op_isBl pins s σ H _ _ v u Q I rx ry ⟨_, _, rfl, rfl, hp.here hR (.bl _)⟩
theorem or_isnot {W : WX} : OpR C (compareOp .IsNot) (R2r X W (cmpop .isnot)) := by
  rintro pins s σ H x y v u Q I rx ry ⟨L, a, b, st, σ0, hR, ha, hb, hp⟩
  cases b <;> try exact hp.elim
  case non =>
    cases hb
    refine op_notN pins s σ H _ _ v u Q I rx ry ⟨rfl, ?_⟩
    rw [ha.non_iff]
    exact hp.here hR (.bl _)
  case bl k =>
    cases a <;> try exact hp.elim
    cases ha; cases hb
    exact op_notBl pins s σ H _ _ v u Q I rx ry ⟨_, _, rfl, rfl, hp.here hR (.bl _)⟩
def copOf : COp → CmpOp
  | .eq => .Eq | .ne => .NotEq | .lt => .Lt | .le => .LtE | .gt => .Gt | .ge => .GtE | .inn => .In | .notin => .NotIn | .is => .Is | .isnot => .IsNot
theorem or_cmp {W : WX} (hK : C.K = X.K) (hu : C.A.units + 64 < cLine) : ∀ o, OpR C (compareOp (copOf o)) (R2r X W (cmpop o))
  | .eq => or_eq hK hu | .ne => or_ne hK hu
  | .lt => or_ord op_lt fun a b st => by cases a <;> cases b <;> rfl
  | .le => or_ord op_le fun a b st => by cases a <;> cases b <;> rfl
  | .gt => or_ord op_gt fun a b st => by cases a <;> cases b <;> rfl
  | .ge => or_ord op_ge fun a b st => by cases a <;> cases b <;> rfl
  | .inn => or_in hK hu | .notin => or_notin hK hu | .is => or_is | .isnot => or_isnot
end
end Ev

set_option Elab.async false
set_option linter.all false
set_option maxRecDepth 100000
set_option maxHeartbeats 2000000
/-! Expressions: names, constants, truth, tests, displays, items, attributes, calls of built-ins. -/
namespace Ev
open PySem PySem.Spec PyProof.Rows L2
section
variable {X : Fx} {J : Jd} {C : Cx} {G : Gl} {a b c e : PySem.Expr} {ca cb cc : CE} {es : List PySem.Expr} {ces : List CE} {pos : Pos}

theorem per_var {i : Nat} {x : Str} (hN : C.N[i]? = some x) (hv : Vis C.env.scope x) (hd : (x == ("__debug__" : Str)) = false) (hcd : (x == ("__classdict__" : Str)) = false) : PEr X J C (.Name x pos) (evE G (.var i)) := fun W tk =>
  PE.imp (pe_var hN hv hd hcd) fun σ H Q h => by
    obtain ⟨L, fr, st, hR, hF, hp⟩ := h
    simp only [evE] at hp
    cases q : fr[i]? with
    | none => rw [q] at hp; exact hp.elim
    | some o => cases o with
      | none => rw [q] at hp; exact hp.elim
      | some v =>
        rw [q] at hp
        obtain ⟨y, e1, r⟩ := hF.val i v q
        exact ⟨y, e1, hp.here hR r⟩
theorem per_c {v : PV} {y : V} (h : PE C e (tC y)) (r : ∀ L, RV X L v y) : PEr X J C e (evE G (.cst v)) := fun W tk =>
  PE.imp h fun σ H Q h => by
    obtain ⟨L, fr, st, hR, hF, hp⟩ := h
    exact RP.here (R := RV X) hp hR (r L)
/-- what a value's truth is -/
theorem truV_of {L : Lg} {H : Hp} {st : Store} (hR : Rel X L H st) {v : PV} {x : V} {k : Bool} (r : RV X L v x) (h : truth st v = some k) : TruV X.K x H k := by
  cases v with
  | non => cases r; cases h; exact (rfl : false = false)
  | bl b => cases r; cases h; show k = k; rfl
  | int i =>
    cases r
    simp only [truth, Option.some.injEq] at h
    show k = (i != 0)
    rw [← h]
    by_cases e : i = 0 <;> simp [e]
  | str s =>
    cases r
    simp only [truth] at h
    by_cases hz : sizeOk s.length = true
    · rw [if_pos hz] at h
      cases h
      refine ⟨lineOk hz, ?_⟩
      by_cases e : s.length = 0
      · simp [e]
      · have e2 : ((s.length : Int) != 0) = true := by rw [bne_iff_ne]; omega
        rw [e2]; simp [e]
    · rw [if_neg hz] at h; cases h
  | tup vs =>
    obtain ⟨p, xs, rfl, hx, rx⟩ := r.sqT hR
    cases h
    exact .inr (.inl ⟨xs, hx, by rw [rx.isEmpty]⟩)
  | flst vs =>
    cases r with
    | flst h1 h2 => cases h; exact .inl ⟨_, .inl (.inr ⟨_, hR.sub _ _ h1⟩), by rw [h2.isEmpty]⟩
    | kflst h1 h2 => cases h; exact .inl ⟨_, .inr h1, by rw [h2.isEmpty]⟩
  | obj i =>
    simp only [truth] at h
    cases e1 : st[i]? with
    | none => rw [e1] at h; cases h
    | some c => cases c with
      | lst vs =>
        rw [e1] at h; cases h
        cases r with
        | obj h1 =>
          obtain ⟨xs, h2, h3⟩ := cell_lst hR h1 e1
          exact .inl ⟨_, .inl (.inl h2), by rw [h3.isEmpty]⟩
      | ins _ _ _ => rw [e1] at h; cases h
      | dead => rw [e1] at h; cases h
  | ins _ _ _ => cases h
theorem cond_cases {α : Type} {o : Option Bool} {x y : Res α} {P : Res α → Prop} (hs : ¬ P .stuck) (h : P (cond o x y)) : (o = some true ∧ P x) ∨ (o = some false ∧ P y) := by
  cases o with
  | none => exact (hs h).elim
  | some b => cases b with
    | true => exact .inl ⟨rfl, h⟩
    | false => exact .inr ⟨rfl, h⟩
theorem rp_stuck {α β : Type} {L : Lg} {R : Lg → α → β → Prop} {W : WX} {σ : L2.St} {Q : β → Hp → Prop} : ¬ RP X L R W σ .stuck Q := fun h => h
theorem per_not (hK : C.K = X.K) (ha : PEr X J C a (evE G ca)) : PEr X J C (.UnaryOp .Not a pos) (evE G (.nt ca)) := fun W tk =>
  PE.imp (pe_notT (ha W tk)) fun σ H Q h => by
    obtain ⟨L, fr, st, hR, hF, hp⟩ := h
    simp only [evE] at hp
    refine ⟨L, fr, st, hR, hF, RP.imp (RP.bind hp) ?_⟩
    rintro x H1 ⟨L1, v, st1, le, hR1, r, hp1⟩
    rcases cond_cases (P := fun r => RP X L1 (RV X) W σ r Q) rp_stuck hp1 with ⟨e, hp2⟩ | ⟨e, hp2⟩
    · exact ⟨true, by rw [hK]; exact truV_of hR1 r e, hp2.here hR1 (.bl _)⟩
    · exact ⟨false, by rw [hK]; exact truV_of hR1 r e, hp2.here hR1 (.bl _)⟩
theorem per_and {rest : List PySem.Expr} (hK : C.K = X.K) (ha : PEr X J C a (evE G ca)) (hb : PEr X J C (.BoolOp .And (b :: rest) pos) (evE G cb)) : PEr X J C (.BoolOp .And (a :: b :: rest) pos) (evE G (.and ca cb)) := fun W tk =>
  PE.imp (pe_andT (ha W tk) (hb W tk)) fun σ H Q h => by
    obtain ⟨L, fr, st, hR, hF, hp⟩ := h
    simp only [evE] at hp
    refine ⟨L, fr, st, hR, hF, RP.imp (RP.bind hp) ?_⟩
    rintro x H1 ⟨L1, v, st1, le, hR1, r, hp1⟩
    rcases cond_cases (P := fun r => RP X L1 (RV X) W σ r Q) rp_stuck hp1 with ⟨e, hp2⟩ | ⟨e, hp2⟩
    · exact ⟨true, by rw [hK]; exact truV_of hR1 r e, by rw [if_pos rfl]; exact ⟨L1, fr, st1, hR1, hF.mono le, hp2⟩⟩
    · exact ⟨false, by rw [hK]; exact truV_of hR1 r e, by rw [if_neg Bool.false_ne_true]; exact hp2.here hR1 r⟩
theorem per_or {rest : List PySem.Expr} (hK : C.K = X.K) (ha : PEr X J C a (evE G ca)) (hb : PEr X J C (.BoolOp .Or (b :: rest) pos) (evE G cb)) : PEr X J C (.BoolOp .Or (a :: b :: rest) pos) (evE G (.or ca cb)) := fun W tk =>
  PE.imp (pe_orT (ha W tk) (hb W tk)) fun σ H Q h => by
    obtain ⟨L, fr, st, hR, hF, hp⟩ := h
    simp only [evE] at hp
    refine ⟨L, fr, st, hR, hF, RP.imp (RP.bind hp) ?_⟩
    rintro x H1 ⟨L1, v, st1, le, hR1, r, hp1⟩
    rcases cond_cases (P := fun r => RP X L1 (RV X) W σ r Q) rp_stuck hp1 with ⟨e, hp2⟩ | ⟨e, hp2⟩
    · exact ⟨true, by rw [hK]; exact truV_of hR1 r e, by rw [if_pos rfl]; exact hp2.here hR1 r⟩
    · exact ⟨false, by rw [hK]; exact truV_of hR1 r e, by rw [if_neg Bool.false_ne_true]; exact ⟨L1, fr, st1, hR1, hF.mono le, hp2⟩⟩
theorem per_one {op : PySem.BoolOp} (h : PEr X J C a (evE G ca)) : PEr X J C (.BoolOp op [a] pos) (evE G ca) := fun W tk => pe_one (h W tk)

/-! ### tests -/
theorem RP.bindTest {L : Lg} {W : WX} {σ : L2.St} {Q : Bool → Hp → Prop} {r : Res PV} (p : RP X L (fun _ (a b : Bool) => a = b) W σ (r.bind fun v st1 => opt st1 (truth st1 v)) Q) :
    RP X L (RV X) W σ r (fun y H1 => ∃ (L1 : Lg) (v : PV) (st1 : Store), L.le L1 ∧ Rel X L1 H1 st1 ∧ RV X L1 v y ∧ ∃ k, truth st1 v = some k ∧ Q k H1) := by
  refine RP.imp (RP.bind p) ?_
  rintro y H1 ⟨L1, v, st1, le, hR1, r, hp⟩
  refine ⟨L1, v, st1, le, hR1, r, ?_⟩
  cases e : truth st1 v with
  | none => rw [e] at hp; exact hp.elim
  | some k => rw [e] at hp; exact ⟨k, rfl, hp.here hR1 rfl⟩
theorem ptr_val (hK : C.K = X.K) (ha : PEr X J C a (evE G ca)) (he : ∀ whole, isTrue a C.env whole = (do let v ← whole; standAt a.pos; holding [v] (truthy v))) : PTr X J C a (evE G ca) := fun W tk =>
  PT.imp (pt_truth (ha W tk) he) fun σ H Q h => by
    obtain ⟨L, fr, st, hR, hF, hp⟩ := h
    refine ⟨L, fr, st, hR, hF, RP.imp (RP.bindTest hp) ?_⟩
    rintro y H1 ⟨L1, v, st1, le, hR1, r, k, e, q⟩
    exact ⟨k, by rw [hK]; exact truV_of hR1 r e, q⟩
theorem ptr_not (ha : PTr X J C a (evE G ca)) : PTr X J C (.UnaryOp .Not a pos) (evE G (.nt ca)) := fun W tk =>
  PT.imp (pt_not (ha W tk)) fun σ H Q h => by
    obtain ⟨L, fr, st, hR, hF, hp⟩ := h
    refine ⟨L, fr, st, hR, hF, ?_⟩
    simp only [evE] at hp
    revert hp
    cases evE G ca fr st with
    | stuck => exact fun hp => hp
    | exc c ks vs st1 => exact fun hp => hp
    | ok v st1 =>
      intro hp
      simp only [Res.bind] at hp ⊢
      cases e : truth st1 v with
      | none => rw [e] at hp; exact hp.elim
      | some k =>
        rw [e] at hp
        cases k with
        | true =>
          intro L' H' b le r1 r2
          subst r2
          exact hp L' H' false le r1 rfl
        | false =>
          intro L' H' b le r1 r2
          subst r2
          exact hp L' H' true le r1 rfl
def PWr (X : Fx) (J : Jd) (C : Cx) (e : PySem.Expr) (f : Frame → Store → Res PV) : Prop := ∀ W, Takes C W → PW C e (TTr X J W f)
theorem PWr.ptr {f : Frame → Store → Res PV} (h : PWr X J C e f) : PTr X J C e f := fun W tk => (h W tk).pt
theorem pwr_and1 (h : PTr X J C a (evE G ca)) : PWr X J C (.BoolOp .And [a] pos) (evE G ca) := fun W tk => pw_and1 (h W tk)
theorem pwr_or1 (h : PTr X J C a (evE G ca)) : PWr X J C (.BoolOp .Or [a] pos) (evE G ca) := fun W tk => pw_or1 (h W tk)
theorem RP.test {L : Lg} {W : WX} {σ : L2.St} {Q : Bool → Hp → Prop} {r : Res PV} {x y : PV → Store → Res PV} (p : RP X L (fun _ (a b : Bool) => a = b) W σ ((r.bind fun v st1 => cond (truth st1 v) (x v st1) (y v st1)).bind fun v st1 => opt st1 (truth st1 v)) Q) :
    RP X L (fun _ (a b : Bool) => a = b) W σ (r.bind fun v st1 => opt st1 (truth st1 v)) (fun k H1 => ∃ (L1 : Lg) (v : PV) (st1 : Store), L.le L1 ∧ Rel X L1 H1 st1 ∧ truth st1 v = some k ∧ RP X L1 (fun _ (a b : Bool) => a = b) W σ ((if k = true then x v st1 else y v st1).bind fun v st1 => opt st1 (truth st1 v)) Q) := by
  cases r with
  | stuck => exact p
  | exc c ks vs st1 => exact p
  | ok v st1 =>
    simp only [Res.bind] at p ⊢
    cases e : truth st1 v with
    | none => rw [e] at p; exact p.elim
    | some k =>
      rw [e] at p
      intro L' H' b le r1 r2
      subst r2
      refine ⟨L', v, st1, le, r1, e, ?_⟩
      cases k with
      | true => exact RP.mono le p
      | false => exact RP.mono le p
theorem pwr_and {rest : List PySem.Expr} (ha : PTr X J C a (evE G ca)) (hb : PWr X J C (.BoolOp .And (b :: rest) pos) (evE G cb)) : PWr X J C (.BoolOp .And (a :: b :: rest) pos) (evE G (.and ca cb)) := fun W tk =>
  PW.imp (pw_and (ha W tk) (hb W tk)) fun σ H Q h => by
    obtain ⟨L, fr, st, hR, hF, hp⟩ := h
    simp only [evE] at hp
    refine ⟨L, fr, st, hR, hF, RP.imp (RP.test hp) ?_⟩
    rintro k H1 ⟨L1, v, st1, le, hR1, e, hp1⟩
    cases k with
    | true => rw [if_pos rfl] at hp1 ⊢; exact ⟨L1, fr, st1, hR1, hF.mono le, hp1⟩
    | false =>
      rw [if_neg Bool.false_ne_true] at hp1 ⊢
      simp only [Res.bind, e] at hp1
      exact hp1.here hR1 rfl
theorem pwr_or {rest : List PySem.Expr} (ha : PTr X J C a (evE G ca)) (hb : PWr X J C (.BoolOp .Or (b :: rest) pos) (evE G cb)) : PWr X J C (.BoolOp .Or (a :: b :: rest) pos) (evE G (.or ca cb)) := fun W tk =>
  PW.imp (pw_or (ha W tk) (hb W tk)) fun σ H Q h => by
    obtain ⟨L, fr, st, hR, hF, hp⟩ := h
    simp only [evE] at hp
    refine ⟨L, fr, st, hR, hF, RP.imp (RP.test hp) ?_⟩
    rintro k H1 ⟨L1, v, st1, le, hR1, e, hp1⟩
    cases k with
    | false => rw [if_neg Bool.false_ne_true] at hp1 ⊢; exact ⟨L1, fr, st1, hR1, hF.mono le, hp1⟩
    | true =>
      rw [if_pos rfl] at hp1 ⊢
      simp only [Res.bind, e] at hp1
      exact hp1.here hR1 rfl
theorem per_ite (hc : PTr X J C c (evE G cc)) (ha : PEr X J C a (evE G ca)) (hb : PEr X J C b (evE G cb)) : PEr X J C (.IfExp c a b pos) (evE G (.ite cc ca cb)) := fun W tk =>
  PE.imp (pe_ifExp (hc W tk) (ha W tk) (hb W tk)) fun σ H Q h => by
    obtain ⟨L, fr, st, hR, hF, hp⟩ := h
    refine ⟨L, fr, st, hR, hF, ?_⟩
    simp only [evE] at hp
    revert hp
    cases evE G cc fr st with
    | stuck => exact fun hp => hp
    | exc c ks vs st1 => exact fun hp => hp
    | ok v st1 =>
      intro hp
      simp only [Res.bind] at hp ⊢
      cases e : truth st1 v with
      | none => rw [e] at hp; exact hp.elim
      | some k =>
        rw [e] at hp
        cases k with
        | true =>
          intro L' H' b le r1 r2
          subst r2
          rw [if_pos rfl]
          exact ⟨L', fr, st1, r1, hF.mono le, RP.mono le hp⟩
        | false =>
          intro L' H' b le r1 r2
          subst r2
          rw [if_neg Bool.false_ne_true]
          exact ⟨L', fr, st1, r1, hF.mono le, RP.mono le hp⟩
theorem ptr_ite (hc : PTr X J C c (evE G cc)) (ha : PTr X J C a (evE G ca)) (hb : PTr X J C b (evE G cb)) : PTr X J C (.IfExp c a b pos) (evE G (.ite cc ca cb)) := fun W tk => by
  refine ⟨fun pins s σ H Q I h => ?_⟩
  obtain ⟨L, fr, st, hR, hF, hp⟩ := h
  simp only [evE] at hp
  refine isTrue_IfExp (thn ((hc W tk).run pins s σ H _ I ⟨L, fr, st, hR, hF, RP.test hp⟩) ?_)
  rintro k s1 ⟨H1, I1, L1, v, st1, le, hR1, e, hp1⟩
  cases k with
  | true =>
    rw [if_pos rfl] at hp1 ⊢
    exact (ha W tk).run pins s1 σ H1 Q I1 ⟨L1, fr, st1, hR1, hF.mono le, hp1⟩
  | false =>
    rw [if_neg Bool.false_ne_true] at hp1 ⊢
    exact (hb W tk).run pins s1 σ H1 Q I1 ⟨L1, fr, st1, hR1, hF.mono le, hp1⟩
/-- a comparison as a test -/
theorem ptr_cmp {op : CmpOp} {f : PV → PV → Store → Res PV} (ho : ∀ W, Takes C W → OpR C (compareOp op) (R2r X W f)) (hb1 : ∀ a b st, ∀ v st', f a b st = .ok v st' → ∃ k, v = .bl k)
    (ha : PEr X J C a (evE G ca)) (hb : PEr X J C b (evE G cb)) (hm : behindInMarks op b = false) :
    PTr X J C (.Compare a [op] [b] pos) (fun fr st => (evE G ca fr st).bind fun x st1 => (evE G cb fr st1).bind fun y st2 => f x y st2) := fun W tk =>
  PT.imp (pt_cmpR (ho W tk) (ha W tk) (hb W tk) hm) fun σ H Q h => by
    refine r2_of ?_
    obtain ⟨L, fr, st, hR, hF, hp⟩ := h
    refine ⟨L, fr, st, hR, hF, ?_⟩
    have key : ∀ r : Res PV, (∀ v st', r = .ok v st' → ∃ k, v = .bl k) → RP X L (fun _ (a b : Bool) => a = b) W σ (r.bind fun v st1 => opt st1 (truth st1 v)) Q → RP X L (RV X) W σ r (fun z H3 => ∃ k, z = .bl k ∧ Q k H3) := by
      intro r hr hp
      cases r with
      | stuck => exact hp
      | exc c ks vs st1 => exact hp
      | ok v st1 =>
        obtain ⟨k, rfl⟩ := hr v st1 rfl
        intro L' H' b le r1 r2
        cases r2
        exact ⟨k, rfl, hp L' H' k le r1 rfl⟩
    dsimp only at hp ⊢
    refine key _ (fun v st' e => ?_) hp
    cases e1 : evE G ca fr st with
    | stuck => rw [e1] at e; cases e
    | exc c ks vs st1 => rw [e1] at e; cases e
    | ok x st1 =>
      rw [e1] at e
      simp only [Res.bind] at e
      cases e2 : evE G cb fr st1 with
      | stuck => rw [e2] at e; cases e
      | exc c ks vs st1 => rw [e2] at e; cases e
      | ok y st2 =>
        rw [e2] at e
        exact hb1 _ _ _ _ _ e
/-! ### argument lists, displays -/
def noStar : PySem.Expr → Bool
  | .Starred _ _ => false
  | _ => true
theorem star_of (h : noStar e = true) (es : List PySem.Expr) (env : Env) : starEach (e :: es) env = (false, eval e env) :: starEach es env := by
  cases e <;> first | rfl | cases h
theorem plain_args : ∀ {es : List PySem.Expr}, es.all noStar = true → ∀ (p : Pos) (env : Env), (backTo p (starEach es env)).any (·.1) = false
  | [], _, _, _ => rfl
  | e :: es, h, p, env => by
    have h' := List.all_cons ▸ h
    rw [Bool.and_eq_true] at h'
    rw [star_of h'.1]
    have := plain_args h'.2 p env
    unfold backTo at this ⊢
    simp only [List.map_cons, List.any_cons, this, Bool.or_false]
theorem par_nil : PAr X J C [] (evEs G []) := fun W tk => PA.imp pa_nil fun σ H Q h => by
  obtain ⟨L, fr, st, hR, hF, hp⟩ := h
  exact RP.here (R := RVs X) hp hR .nil
theorem par_cons (hs : noStar e = true) (ha : PEr X J C e (evE G ca)) (hr : PAr X J C es (evEs G ces)) : PAr X J C (e :: es) (evEs G (ca :: ces)) := fun W tk =>
  PA.imp (pa_cons (ha W tk) (hr W tk) (star_of hs _ _)) fun σ H Q h => by
    obtain ⟨L, fr, st, hR, hF, hp⟩ := h
    simp only [evEs] at hp
    refine ⟨L, fr, st, hR, hF, RP.imp (RP.bind hp) ?_⟩
    rintro x H1 ⟨L1, v, st1, le1, hR1, r1, hp1⟩
    refine ⟨L1, fr, st1, hR1, hF.mono le1, RP.imp (RP.bind (R' := RVs X) hp1) ?_⟩
    rintro xs H2 ⟨L2, vs, st2, le2, hR2, r2, hp2⟩
    exact RP.here (R := RVs X) hp2 hR2 (.cons (r1.mono le2) r2)
theorem per_tup {k : Nat} (h : PAr X J C es (evEs G ces)) : PEr X J C (.Tuple es k pos) (evE G (.tup ces)) := fun W tk =>
  PE.imp (pe_tup (h W tk)) fun σ H Q h => by
    obtain ⟨L, fr, st, hR, hF, hp⟩ := h
    simp only [evE] at hp
    refine ⟨L, fr, st, hR, hF, RP.imp (RP.bind (R' := RVs X) hp) ?_⟩
    rintro xs H1 ⟨L1, vs, st1, le1, hR1, r1, hp1⟩
    unfold newT at hp1
    by_cases hz : sizeOk vs.length = true
    · rw [if_pos hz] at hp1
      exact ⟨by rw [← r1.length]; exact lineOk hz, new_tup hR1 r1 hp1⟩
    · rw [if_neg hz] at hp1; exact hp1.elim
theorem per_lst (h : PAr X J C es (evEs G ces)) : PEr X J C (.List es pos) (evE G (.lst ces)) := fun W tk =>
  PE.imp (pe_lst (h W tk)) fun σ H Q h => by
    obtain ⟨L, fr, st, hR, hF, hp⟩ := h
    simp only [evE] at hp
    refine ⟨L, fr, st, hR, hF, RP.imp (RP.bind (R' := RVs X) hp) ?_⟩
    rintro xs H1 ⟨L1, vs, st1, le1, hR1, r1, hp1⟩
    exact new_list hR1 r1 hp1
end
end Ev

set_option Elab.async false
set_option linter.all false
set_option maxRecDepth 100000
set_option maxHeartbeats 2000000
/-! Attributes, items, slices, calls of built-ins by values. -/
namespace Ev
open PySem PySem.Spec PyProof.Rows L2
section
variable {X : Fx} {J : Jd} {C : Cx} {G : Gl} {a b c e : PySem.Expr} {ca cb cc : CE} {es : List PySem.Expr} {ces : List CE} {pos : Pos}
def notCall0 : PySem.Expr → Bool
  | .Call _ [] [] _ => false
  | _ => true
theorem base_of (h : notCall0 e = true) (f : Str) (env : Env) : attributeBase e f env (eval e env) = eval e env := by
  cases e <;> first | rfl | skip
  rename_i fn args kws p
  cases fn <;> first | rfl | (cases args <;> cases kws <;> first | rfl | cases h)
theorem per_attr {f : Nat} (hK : C.K = X.K) (hn : notCall0 e = true) (he : PEr X J C e (evE G ca)) : PEr X J C (.Attribute e (X.aN f) pos) (evE G (.attr f ca)) := fun W tk =>
  PE.imp (pe_fld (f := X.aN f) (he W tk) (base_of hn _ _)) fun σ H Q h => by
    obtain ⟨L, fr, st, hR, hF, hp⟩ := h
    simp only [evE] at hp
    refine ⟨L, fr, st, hR, hF, RP.imp (RP.bind hp) ?_⟩
    rintro x H1 ⟨L1, v, st1, le, hR1, r, hp1⟩
    unfold attrOf at hp1
    cases v <;> try exact hp1.elim
    case obj i =>
      cases e1 : st1[i]? with
      | none => simp only [e1] at hp1; exact hp1.elim
      | some cl => cases cl with
        | ins c ks vs =>
          simp only [e1] at hp1
          cases e2 : lookG f ks vs with
          | none => rw [e2] at hp1; exact hp1.elim
          | some v =>
            rw [e2] at hp1
            cases r with
            | obj h1 =>
              obtain ⟨dx, xs, h2, h3, ok, fre, h4⟩ := cell_ins hR1 h1 e1
              obtain ⟨y, e3, r3⟩ := h4.look e2
              have hk : f ∈ ks := by
                have : ∀ {ks : List Nat} {vs : List PV}, lookG f ks vs = some v → f ∈ ks := by
                  intro ks
                  induction ks with
                  | nil => intro vs e; cases vs <;> cases e
                  | cons k ks ih =>
                    intro vs e
                    cases vs with
                    | nil => cases e
                    | cons w vs =>
                      unfold lookG at e
                      by_cases h : k = f
                      · subst h; exact List.mem_cons_self
                      · rw [if_neg h] at e; exact List.mem_cons_of_mem _ (ih e)
                exact this e2
              exact ⟨_, _, dx, _, y, rfl, h2, by rw [hK]; exact ok.cl, by rw [hK]; exact fre f hk, by rw [prs_look]; exact e3, hp1.here hR1 r3⟩
        | lst _ => simp only [e1] at hp1; exact hp1.elim
        | dead => simp only [e1] at hp1; exact hp1.elim
    case ins c ks vs =>
      cases e2 : lookG f ks vs with
      | none => simp only [e2] at hp1; exact hp1.elim
      | some v =>
        simp only [e2] at hp1
        cases r with
        | ins h2 h3 ok fre h4 =>
          obtain ⟨y, e3, r3⟩ := h4.look e2
          have hk : f ∈ ks := by
            have : ∀ {ks : List Nat} {vs : List PV}, lookG f ks vs = some v → f ∈ ks := by
              intro ks
              induction ks with
              | nil => intro vs e; cases vs <;> cases e
              | cons k ks ih =>
                intro vs e
                cases vs with
                | nil => cases e
                | cons w vs =>
                  unfold lookG at e
                  by_cases h : k = f
                  · subst h; exact List.mem_cons_self
                  · rw [if_neg h] at e; exact List.mem_cons_of_mem _ (ih e)
            exact this e2
          exact ⟨_, _, _, _, y, rfl, hR1.sub _ _ h2, by rw [hK]; exact ok.cl, by rw [hK]; exact fre f hk, by rw [prs_look]; exact e3, hp1.here hR1 r3⟩
/-! ### items -/
theorem atI_eq {α : Type} (xs : List α) (i : Int) : Ev.atI xs i = L2.atI xs i := by
  unfold Ev.atI L2.atI
  have : Ev.ixN xs.length i = L2.ixN xs.length i := rfl
  rw [this]
  cases L2.ixN xs.length i <;> rfl
theorem atI_rv {L : Lg} {vs : List PV} {xs : List V} {i : Int} {v : PV} (r : RVs X L vs xs) (h : Ev.atI vs i = some v) : ∃ x, L2.atI xs i = some x ∧ RV X L v x := by
  rw [← atI_eq]
  unfold Ev.atI at h ⊢
  rw [r.length] at h
  cases q : Ev.ixN xs.length i with
  | none => rw [q] at h; cases h
  | some j => rw [q] at h; exact r.get h
theorem rv_seq {L : Lg} {H : Hp} {st : Store} (hR : Rel X L H st) {v : PV} {x : V} {vs : List PV} (r : RV X L v x) (h : seqOf st v = some vs) : ∃ a xs, x = .ref a ∧ RVs X L vs xs ∧ (SqL X.K H a xs ∨ SqT X.K H a xs) := by
  cases v with
  | tup ws =>
    cases h
    obtain ⟨p, xs, rfl, hx, rx⟩ := r.sqT hR
    exact ⟨p, xs, rfl, rx, .inr hx⟩
  | flst ws =>
    cases h
    cases r with
    | flst h1 h2 => exact ⟨_, _, rfl, h2, .inl (.inl (.inr ⟨_, hR.sub _ _ h1⟩))⟩
    | kflst h1 h2 => exact ⟨_, _, rfl, h2, .inl (.inr h1)⟩
  | obj i =>
    unfold seqOf at h
    cases e1 : st[i]? with
    | none => simp only [e1] at h; cases h
    | some c => cases c with
      | lst ws =>
        simp only [e1] at h; cases h
        cases r with
        | obj h1 =>
          obtain ⟨xs, h2, h3⟩ := cell_lst hR h1 e1
          exact ⟨_, xs, rfl, h3, .inl (.inl (.inl h2))⟩
      | ins _ _ _ => simp only [e1] at h; cases h
      | dead => simp only [e1] at h; cases h
  | _ => cases h
theorem ixr_index {W : WX} (hK : C.K = X.K) : IxR C (R2r X W index) := by
  intro value slice pins s σ H x y v u Q I rx ry ⟨L, a, b, st, σ0, hR, ha, hb, hp⟩ hs
  refine ix_seq (X := C) value slice pins s σ H x y v u Q I rx ry ?_ hs
  unfold index at hp
  cases b <;> try exact hp.elim
  rename_i i
  cases hb
  have sq : ∀ vs, seqOf st a = some vs → RP X L (RV X) W σ0 (opt st (Ev.atI vs i)) Q → rIx C.K x (.int i) H Q := by
    intro vs e hp
    obtain ⟨p, xs, rfl, rx', h⟩ := rv_seq hR ha e
    cases e2 : Ev.atI vs i with
    | none => rw [e2] at hp; exact hp.elim
    | some w =>
      rw [e2] at hp
      obtain ⟨z, e3, r3⟩ := atI_rv rx' e2
      rw [hK]
      rcases h with h | h
      · exact .inl ⟨p, xs, i, z, rfl, rfl, h, e3, hp.here hR r3⟩
      · exact .inr (.inl ⟨p, xs, i, z, rfl, rfl, h, e3, hp.here hR r3⟩)
  cases a with
  | str t =>
    cases ha
    simp only at hp
    by_cases hz : sizeOk t.length = true
    · rw [if_pos hz] at hp
      cases e2 : Ev.atI t.cps.toList i with
      | none => rw [e2] at hp; exact hp.elim
      | some w =>
        rw [e2] at hp
        exact .inr (.inr ⟨t, i, w, rfl, rfl, lineOk hz, by rw [← atI_eq]; exact e2, hp.here hR (.str _)⟩)
    · rw [if_neg hz] at hp; exact hp.elim
  | tup ws => exact sq ws rfl hp
  | flst ws => exact sq ws rfl hp
  | obj j =>
    cases e1 : seqOf st (.obj j) with
    | none => simp only [e1] at hp; exact hp.elim
    | some vs => simp only [e1] at hp; exact sq vs e1 hp
  | non => exact hp.elim
  | bl _ => exact hp.elim
  | int _ => exact hp.elim
  | ins _ _ _ => exact hp.elim
def plainIx : PySem.Expr → Bool
  | .Slice _ _ _ _ => false
  | _ => true
theorem plainIx_of (h : plainIx b = true) : PlainIx b := by
  intro o i
  cases b <;> first | rfl | cases h
theorem per_ix (hK : C.K = X.K) (hs : plainIx b = true) (ha : PEr X J C a (evE G ca)) (hb : PEr X J C b (evE G cb)) : PEr X J C (.Subscript a b pos) (evE G (.ix ca cb)) := fun W tk =>
  PE.imp (pe_ix (ixr_index (W := W) hK) (ha W tk) (hb W tk) (plainIx_of hs)) fun _ _ _ h => r2_of h
/-! ### slices -/
theorem cutL_rv {L : Lg} {vs : List PV} {xs : List V} (r : RVs X L vs xs) (lo hi : Option Int) : RVs X L (cutL vs lo hi) (cutV xs lo hi) := by
  unfold cutL cutV
  rw [r.length]
  exact (r.drop _).take _
theorem cutL_whole {α : Type} {xs : List α} {lo hi : Option Int} (h : HT.sIx xs.length 0 lo = 0 ∧ HT.sIx xs.length xs.length hi = xs.length) : cutL xs lo hi = xs := by
  have h' : Ev.sIx xs.length 0 lo = 0 ∧ Ev.sIx xs.length xs.length hi = xs.length := h
  unfold cutL
  rw [h'.1, h'.2]
  simp
/-- a slice by values -/
abbrev RSl (X : Fx) (W : WX) : V → Option Int → Option Int → Hp → VK → Prop := fun x lo hi H Q =>
  ∃ (L : Lg) (a : PV) (st : Store) (σ : L2.St), Rel X L H st ∧ RV X L a x ∧ RP X L (RV X) W σ (slice a lo hi st) Q
theorem slr_slice {W : WX} (hK : C.K = X.K) : SlR C (RSl X W) := by
  intro pins s σ H x v vl vu lo hi sl Q I rx hs pl pu ⟨L, a, st, σ0, hR, ha, hp⟩
  refine SlR.or sl_list sl_tupA pins s σ H x v vl vu lo hi sl Q I rx hs pl pu ?_
  unfold slice at hp
  cases a <;> try exact hp.elim
  case tup ws =>
    obtain ⟨p, xs, rfl, hx, rx'⟩ := ha.sqT hR
    refine .inr ⟨p, xs, rfl, by rw [hK]; exact hx, fun w => ?_, fun _ => new_tup hR (cutL_rv rx' lo hi) hp⟩
    have e := cutL_whole (xs := ws) (lo := lo) (hi := hi) (by rw [rx'.length]; exact w)
    simp only [e] at hp
    exact hp.here hR ha
  case flst ws =>
    cases ha with
    | flst h1 h2 => exact .inl ⟨_, _, rfl, by rw [hK]; exact .inl (.inr ⟨_, hR.sub _ _ h1⟩), (new_list hR (cutL_rv h2 lo hi) hp).2⟩
    | kflst h1 h2 => exact .inl ⟨_, _, rfl, by rw [hK]; exact .inr h1, (new_list hR (cutL_rv h2 lo hi) hp).2⟩
  case obj i =>
    cases e1 : st[i]? with
    | none => simp only [e1] at hp; exact hp.elim
    | some c => cases c with
      | lst ws =>
        simp only [e1] at hp
        cases ha with
        | obj h1 =>
          obtain ⟨xs, h2, h3⟩ := cell_lst hR h1 e1
          exact .inl ⟨_, _, rfl, by rw [hK]; exact .inl (.inl h2), (new_list hR (cutL_rv h3 lo hi) hp).2⟩
      | ins _ _ _ => simp only [e1] at hp; exact hp.elim
      | dead => simp only [e1] at hp; exact hp.elim
/-- a slice's part, there or not -/
def POr (X : Fx) (J : Jd) (C : Cx) (e : Option PySem.Expr) (f : Frame → Store → Res (Option Int)) : Prop := ∀ W, Takes C W → PO C e (fun σ H Q =>
  ∃ (L : Lg) (fr : Frame) (st : Store), Rel X L H st ∧ FRel X J L fr σ ∧ RP X L (fun _ (v o : Option Int) => v = o) W σ (f fr st) Q)
theorem por_none : POr X J C none (fun _ st => .ok none st) := fun W tk => ⟨fun pins s σ H Q I h => by
  obtain ⟨L, fr, st, hR, hF, hp⟩ := h
  exact po_none.run pins s σ H Q I (RP.here (R := fun _ (v o : Option Int) => v = o) hp hR rfl)⟩
theorem por_some (he : PEr X J C e (evE G ca)) : POr X J C (some e) (fun fr st => (evE G ca fr st).bind partI) := fun W tk => ⟨fun pins s σ H Q I h => by
  obtain ⟨L, fr, st, hR, hF, hp⟩ := h
  refine (po_some (he W tk)).run pins s σ H Q I ⟨L, fr, st, hR, hF, RP.imp (RP.bind hp) ?_⟩
  rintro x H1 ⟨L1, v, st1, le, hR1, r, hp1⟩
  cases v <;> try exact hp1.elim
  cases r
  exact ⟨_, rfl, RP.here (R := fun _ (v o : Option Int) => v = o) hp1 hR1 rfl⟩⟩
theorem per_slc {lo hi : Option PySem.Expr} {l h : Bool} {clo chi : CE} {p2 : Pos} (hK : C.K = X.K) (ha : PEr X J C a (evE G ca))
    (hl : POr X J C lo (fun fr st => if l then (evE G clo fr st).bind partI else .ok none st)) (hh : POr X J C hi (fun fr st => if h then (evE G chi fr st).bind partI else .ok none st)) :
    PEr X J C (.Subscript a (.Slice lo hi none p2) pos) (evE G (.slc l h ca clo chi)) := fun W tk =>
  PE.imp (pe_slice (slr_slice (W := W) hK) (ha W tk) (hl W tk) (hh W tk)) fun σ H Q h0 => by
    obtain ⟨L, fr, st, hR, hF, hp⟩ := h0
    simp only [evE] at hp
    refine ⟨L, fr, st, hR, hF, RP.imp (RP.bind hp) ?_⟩
    rintro x H1 ⟨L1, v, st1, le1, hR1, r1, hp1⟩
    refine ⟨L1, fr, st1, hR1, hF.mono le1, RP.imp (RP.bind (R' := fun _ (v o : Option Int) => v = o) hp1) ?_⟩
    rintro o H2 ⟨L2, o', st2, le2, hR2, r2, hp2⟩
    subst r2
    refine ⟨L2, fr, st2, hR2, (hF.mono le1).mono le2, RP.imp (RP.bind (R' := fun _ (v o : Option Int) => v = o) hp2) ?_⟩
    rintro o2 H3 ⟨L3, o2', st3, le3, hR3, r3, hp3⟩
    subst r3
    exact ⟨L3, v, st3, σ, hR3, (r1.mono le2).mono le3, hp3⟩
/-! ### calls by values -/
/-- a built-in upon values does what cf says -/
abbrev RCr (X : Fx) (W : WX) (cf : List PV → Store → Res PV) : List V → Hp → VK → Prop := fun xs H Q =>
  ∃ (L : Lg) (vs : List PV) (st : Store) (σ : L2.St), Rel X L H st ∧ RVs X L vs xs ∧ RP X L (RV X) W σ (cf vs st) Q
theorem rcr_of {W : WX} {σ : L2.St} {H : Hp} {Q : VK} {cf : List PV → Store → Res PV} (h : TEr X J W (fun fr st => (evEs G ces fr st).bind cf) σ H Q) :
    tCB (RCr X W cf) (TAr X J W (evEs G ces)) σ H Q := by
  obtain ⟨L, fr, st, hR, hF, hp⟩ := h
  refine ⟨L, fr, st, hR, hF, RP.imp (RP.bind (R' := RVs X) hp) ?_⟩
  rintro xs H1 ⟨L1, vs, st1, le1, hR1, r1, hp1⟩
  exact ⟨L1, vs, st1, σ, hR1, r1, hp1⟩
/-- f(e, ..), f a built-in function or type, by its name -/
theorem per_callB {id : String} {x : Str} {p : Pos} {cf : List PV → Store → Res PV} (hc : ∀ W, Takes C W → CallR C (.builtin id) (RCr X W cf)) (hg : L2.Gl C x) (hm : C.mg x = none) (hv : bootBuiltins x = some (.builtin id))
    (hn : x ≠ "__name__") (hdb : (x == ("__debug__" : Str)) = false) (hs : (e :: es).all noStar = true) (ha : PAr X J C (e :: es) (evEs G ces)) :
    PEr X J C (.Call (.Name x p) (e :: es) [] pos) (fun fr st => (evEs G ces fr st).bind cf) := fun W tk =>
  have hs' : noStar e = true ∧ es.all noStar = true := by simpa using hs
  PE.imp (pe_callB (hc W tk) hg hm hv (ha W tk) hn hdb (star_of hs'.1 _ _) (plain_args hs'.2 _ _)) fun _ _ _ h => rcr_of h
theorem per_callTy {T : String} {x : Str} {p : Pos} {cf : List PV → Store → Res PV} (hc : ∀ W, Takes C W → CallR C (.type T) (RCr X W cf)) (hg : L2.Gl C x) (hm : C.mg x = none) (hv : bootBuiltins x = some (.type T))
    (hn : x ≠ "__name__") (hdb : (x == ("__debug__" : Str)) = false) (hs : (e :: es).all noStar = true) (ha : PAr X J C (e :: es) (evEs G ces)) :
    PEr X J C (.Call (.Name x p) (e :: es) [] pos) (fun fr st => (evEs G ces fr st).bind cf) := fun W tk =>
  have hs' : noStar e = true ∧ es.all noStar = true := by simpa using hs
  PE.imp (pe_callTy (hc W tk) hg hm hv (ha W tk) hn hdb (star_of hs'.1 _ _) (plain_args hs'.2 _ _)) fun _ _ _ h => rcr_of h
end
end Ev

set_option Elab.async false
set_option linter.all false
set_option maxRecDepth 100000
set_option maxHeartbeats 2000000
/-! Statements. -/
namespace Ev
open PySem PySem.Spec PyProof.Rows L2
/-- what a statement's result says -/
def SR (X : Fx) (J : Jd) (W : WX) (D : Ends) (L : Lg) (r : SRes) : Prop := match r with
  | .nx fr st => ∀ (L' : Lg) (H' : Hp) (σ' : L2.St), L.le L' → Rel X L' H' st → FRel X J L' fr σ' → D.nx σ' H'
  | .rt v st => ∀ (L' : Lg) (H' : Hp) (x : V), L.le L' → Rel X L' H' st → RV X L' v x → D.rt x H'
  | .bk fr st => ∀ (L' : Lg) (H' : Hp) (σ' : L2.St), L.le L' → Rel X L' H' st → FRel X J L' fr σ' → D.bk σ' H'
  | .ct fr st => ∀ (L' : Lg) (H' : Hp) (σ' : L2.St), L.le L' → Rel X L' H' st → FRel X J L' fr σ' → D.ct σ' H'
  | .exc c ks vs fr st => ∀ (L' : Lg) (H' : Hp) (σ' : L2.St) (cls : Value) (d : Option Addr), L.le L' → Rel X L' H' st → FRel X J L' fr σ' → XR X L' c ks vs cls d → W cls d σ' H'
  | .stuck => False
section
variable {X : Fx} {J : Jd} {W : WX} {D D' : Ends} {L L' : Lg}
theorem SR.mono (h : L.le L') {r : SRes} (p : SR X J W D L r) : SR X J W D L' r := by
  cases r with
  | nx fr st => exact fun L1 H1 s e => p L1 H1 s (h.trans e)
  | rt v st => exact fun L1 H1 x e => p L1 H1 x (h.trans e)
  | bk fr st => exact fun L1 H1 s e => p L1 H1 s (h.trans e)
  | ct fr st => exact fun L1 H1 s e => p L1 H1 s (h.trans e)
  | exc c ks vs fr st => exact fun L1 H1 s cls d e => p L1 H1 s cls d (h.trans e)
  | stuck => exact p
theorem SR.toS {α β : Type} {R : Lg → α → β → Prop} {r : Res α} {g : α → Store → SRes} {fr : Frame} {σ : L2.St} (hF : FRel X J L fr σ) (p : SR X J W D L (r.toS fr g)) :
    RP X L R W σ r (fun b H1 => ∃ (L1 : Lg) (a : α) (st1 : Store), L.le L1 ∧ Rel X L1 H1 st1 ∧ R L1 a b ∧ SR X J W D L1 (g a st1)) := by
  cases r with
  | ok a st => exact fun L1 H1 b e r1 r2 => ⟨L1, a, st, e, r1, r2, SR.mono e p⟩
  | exc c ks vs st => exact fun L1 H1 cls d e r1 r2 => p L1 H1 σ cls d e r1 (hF.mono e) r2
  | stuck => exact p
theorem SR.here {fr : Frame} {st : Store} {H : Hp} {σ : L2.St} (p : SR X J W D L (.nx fr st)) (r : Rel X L H st) (f : FRel X J L fr σ) : D.nx σ H := p L H σ .rfl' r f
end
abbrev TSr (X : Fx) (J : Jd) (W : WX) (f : Frame → Store → SRes) : TS := fun D σ H =>
  ∃ (L : Lg) (fr : Frame) (st : Store), Rel X L H st ∧ FRel X J L fr σ ∧ SR X J W D L (f fr st)
def PSr (X : Fx) (J : Jd) (C : Cx) (st : Stmt) (f : Frame → Store → SRes) : Prop := ∀ W, Takes C W → PS C st (TSr X J W f)
def PSsr (X : Fx) (J : Jd) (C : Cx) (st : List Stmt) (f : Frame → Store → SRes) : Prop := ∀ W, Takes C W → PSs C st (TSr X J W f)
/-- a target -/
abbrev TGr (X : Fx) (J : Jd) (g : PV → Frame → Store → Option Frame) : TG := fun x σ H Q =>
  ∃ (L : Lg) (fr : Frame) (st : Store) (v : PV), Rel X L H st ∧ FRel X J L fr σ ∧ RV X L v x ∧ (match g v fr st with
    | some fr1 => ∀ (L' : Lg) (H' : Hp) (σ' : L2.St), L.le L' → Rel X L' H' st → FRel X J L' fr1 σ' → Q σ' H'
    | none => False)
def PGr (X : Fx) (J : Jd) (C : Cx) (tg : PySem.Expr) (g : PV → Frame → Store → Option Frame) : Prop := PG C tg (TGr X J g)
section
variable {X : Fx} {J : Jd} {C : Cx} {G : Gl} {a b c e o : PySem.Expr} {ca cb cc co : CE} {es : List PySem.Expr} {ces : List CE} {pos tpos : Pos} {st : Stmt} {sts : List Stmt} {cs : CS} {css : List CS}
theorem PG.imp {tg : PySem.Expr} {t u : TG} (h : PG C tg t) (i : ∀ v σ H Q, u v σ H Q → t v σ H Q) : PG C tg u := ⟨fun pins s σ H v w Q I r q => h.run pins s σ H v w Q I r (i v σ H Q q)⟩
theorem PG.or {tg : PySem.Expr} {t u : TG} (h : PG C tg t) (h' : PG C tg u) : PG C tg (fun v σ H Q => t v σ H Q ∨ u v σ H Q) := ⟨fun pins s σ H v w Q I r q => q.elim (h.run pins s σ H v w Q I r) (h'.run pins s σ H v w Q I r)⟩
/-! ### blocks -/
theorem pssr_nil : PSsr X J C [] (exSs G []) := fun W tk => PSs.imp pss_nil fun D σ H h => by
  obtain ⟨L, fr, st, hR, hF, hp⟩ := h
  exact SR.here hp hR hF
theorem pssr_cons (h1 : PSr X J C st (exS G cs)) (h2 : PSsr X J C sts (exSs G css)) : PSsr X J C (st :: sts) (exSs G (cs :: css)) := fun W tk =>
  PSs.imp (pss_cons (h1 W tk) (h2 W tk)) fun D σ H h => by
    obtain ⟨L, fr, st, hR, hF, hp⟩ := h
    refine ⟨L, fr, st, hR, hF, ?_⟩
    simp only [exSs] at hp
    cases e : exS G cs fr st with
    | nx fr1 st1 => rw [e] at hp; exact fun L' H' σ' le r f => ⟨L', fr1, st1, r, f, SR.mono le hp⟩
    | rt v st1 => rw [e] at hp; exact hp
    | bk fr1 st1 => rw [e] at hp; exact hp
    | ct fr1 st1 => rw [e] at hp; exact hp
    | exc c ks vs fr1 st1 => rw [e] at hp; exact hp
    | stuck => rw [e] at hp; exact hp
theorem psr_pass : PSr X J C (.Pass pos) (exS G .pass) := fun W tk => PS.imp ps_pass fun D σ H h => by
  obtain ⟨L, fr, st, hR, hF, hp⟩ := h
  exact SR.here hp hR hF
theorem psr_brk : PSr X J C (.Break pos) (exS G .brk) := fun W tk => PS.imp ps_break fun D σ H h => by
  obtain ⟨L, fr, st, hR, hF, hp⟩ := h
  exact hp L H σ .rfl' hR hF
theorem psr_cnt : PSr X J C (.Continue pos) (exS G .cnt) := fun W tk => PS.imp ps_continue fun D σ H h => by
  obtain ⟨L, fr, st, hR, hF, hp⟩ := h
  exact hp L H σ .rfl' hR hF
/-- not a comprehension -/
def noComp : PySem.Expr → Bool
  | .ListComp _ _ _ _ => false
  | .SetComp _ _ _ _ => false
  | .DictComp _ _ _ _ _ => false
  | _ => true
theorem swaps_of (h : noComp e = true) (t : Option PySem.Expr) (l : Nat) (env : Env) : swapsWith e t l env = pure false := by
  cases e <;> first | rfl | cases h
theorem psr_expr (hn : noComp e = true) (he : PEr X J C e (evE G ca)) : PSr X J C (.Expr e pos) (exS G (.expr ca)) := fun W tk =>
  PS.imp (ps_expr (he W tk) (swaps_of hn _ _ _)) fun D σ H h => by
    obtain ⟨L, fr, st, hR, hF, hp⟩ := h
    simp only [exS] at hp
    refine ⟨L, fr, st, hR, hF, RP.imp (SR.toS hF hp) ?_⟩
    rintro x H1 ⟨L1, v, st1, le, hR1, r, hp1⟩
    exact hp1.here hR1 (hF.mono le)
theorem psr_ret (he : PEr X J C e (evE G ca)) : PSr X J C (.Return (some e) pos) (exS G (.ret ca)) := fun W tk =>
  PS.imp (ps_ret (he W tk)) fun D σ H h => by
    obtain ⟨L, fr, st, hR, hF, hp⟩ := h
    simp only [exS] at hp
    refine ⟨L, fr, st, hR, hF, RP.imp (SR.toS hF hp) ?_⟩
    rintro x H1 ⟨L1, v, st1, le, hR1, r, hp1⟩
    exact hp1 L1 H1 x .rfl' hR1 r
theorem psr_retN : PSr X J C (.Return none pos) (exS G .retN) := fun W tk => PS.imp ps_retN fun D σ H h => by
  obtain ⟨L, fr, st, hR, hF, hp⟩ := h
  exact hp L H .non .rfl' hR .non
theorem psr_set {i : Nat} {x : Str} {pos' : Pos} (hJ : J.fix ≠ some i) (hN : C.N.Nodup) (hi : C.N[i]? = some x) (hx : Loc C.env.scope x) (hf : C.fn x = true ∨ C.env.scope.names.lookup x = some .local) (hn : noComp e = true) (he : PEr X J C e (evE G ca)) :
    PSr X J C (.Assign [.Name x pos'] e pos) (exS G (.set i ca)) := fun W tk =>
  PS.imp (ps_set hN hi hx (he W tk) (swaps_of hn _ _ _) hf) fun D σ H h => by
    obtain ⟨L, fr, st, hR, hF, hp⟩ := h
    simp only [exS] at hp
    refine ⟨L, fr, st, hR, hF, RP.imp (SR.toS hF hp) ?_⟩
    rintro x H1 ⟨L1, v, st1, le, hR1, r, hp1⟩
    exact hp1.here hR1 ((hF.mono le).set r i hJ)
theorem psr_ife (hc : PTr X J C c (evE G cc)) {p q : List Stmt} {cp cq : List CS} (ha : PSsr X J C p (exSs G cp)) (hb : PSsr X J C q (exSs G cq)) : PSr X J C (.If c p q pos) (exS G (.ife cc cp cq)) := fun W tk =>
  PS.imp (ps_if (hc W tk) (ha W tk) (hb W tk)) fun D σ H h => by
    obtain ⟨L, fr, st, hR, hF, hp⟩ := h
    simp only [exS] at hp
    refine ⟨L, fr, st, hR, hF, ?_⟩
    revert hp
    cases evE G cc fr st with
    | stuck => exact fun hp => hp
    | exc c ks vs st1 => exact fun hp L' H' cls d le r1 r2 => hp L' H' σ cls d le r1 (hF.mono le) r2
    | ok v st1 =>
      intro hp
      simp only [Res.bind, Res.toS] at hp ⊢
      cases e : truth st1 v with
      | none => rw [e] at hp; exact hp.elim
      | some k =>
        rw [e] at hp
        intro L' H' b le r1 r2
        subst r2
        cases k with
        | true => rw [if_pos rfl]; exact ⟨L', fr, st1, r1, hF.mono le, SR.mono le hp⟩
        | false => rw [if_neg Bool.false_ne_true]; exact ⟨L', fr, st1, r1, hF.mono le, SR.mono le hp⟩
/-! ### targets -/
theorem pgr_name {i : Nat} {x : Str} (hJ : J.fix ≠ some i) (hN : C.N.Nodup) (hi : C.N[i]? = some x) (hx : Loc C.env.scope x) (hf : C.fn x = true ∨ C.env.scope.names.lookup x = some .local) : PGr X J C (.Name x pos) (fun v fr st => assignT (.nm i) v fr st) :=
  PG.imp (pg_name hN hi hx hf) fun v σ H Q h => by
    obtain ⟨L, fr, st, w, hR, hF, r, hp⟩ := h
    exact hp L H _ .rfl' hR (hF.set r i hJ)
/-- names, one after another -/
def PNs (J : Jd) (C : Cx) : List PySem.Expr → List Nat → Prop
  | [], [] => True
  | e :: es, i :: is => (J.fix ≠ some i ∧ ∃ x p, e = .Name x p ∧ C.N[i]? = some x ∧ Loc C.env.scope x ∧ (C.fn x = true ∨ C.env.scope.names.lookup x = some .local)) ∧ PNs J C es is
  | _, _ => False
abbrev TGsr (X : Fx) (J : Jd) (is : List Nat) : TGs := fun xs σ H Q =>
  ∃ (L : Lg) (fr : Frame) (st : Store) (vs : List PV), Rel X L H st ∧ FRel X J L fr σ ∧ RVs X L vs xs ∧ (match setAll fr is vs with
    | some fr1 => ∀ (L' : Lg) (H' : Hp) (σ' : L2.St), L.le L' → Rel X L' H' st → FRel X J L' fr1 σ' → Q σ' H'
    | none => False)
theorem pgs_names (hN : C.N.Nodup) : ∀ {es : List PySem.Expr} {is : List Nat}, PNs J C es is → PGs C es (TGsr X J is) ∧ (assignEach es C.env).length = es.length ∧ (assignEach es C.env).findIdx? (·.1) = none
  | [], [], _ => ⟨⟨fun pins s σ H vs us Q I r h => pgs_nil.run pins s σ H vs us Q I r (by
      obtain ⟨L, fr, st, ws, hR, hF, rs, hp⟩ := h
      cases rs with
      | nil => exact ⟨rfl, hp L H σ .rfl' hR hF⟩
      | cons _ _ => exact hp.elim)⟩, rfl, rfl⟩
  | e :: es, i :: is, ⟨⟨hJ, x, p, ee, hi, hx, hf⟩, h2⟩ => by
    subst ee
    obtain ⟨ih, hl, hd⟩ := pgs_names hN h2
    refine ⟨⟨fun pins s σ H vs us Q I r h => (pgs_cons (pg_name (pos := p) hN hi hx hf) ih).run pins s σ H vs us Q I r ?_⟩, by
      show (assignEach es C.env).length + 1 = _
      rw [hl] <;> rfl, ?_⟩
    · obtain ⟨L, fr, st, ws, hR, hF, rs, hp⟩ := h
      cases rs with
      | nil => exact hp.elim
      | cons r1 rs =>
        refine ⟨_, _, rfl, L, _, st, _, hR, hF.set r1 i hJ, rs, hp⟩
    · have e : assignEach (.Name x p :: es) C.env = (false, assign (.Name x p) C.env) :: assignEach es C.env := rfl
      rw [e, List.findIdx?_cons]
      simp [hd]
theorem PNs.len : ∀ {es : List PySem.Expr} {is : List Nat}, PNs J C es is → es.length = is.length
  | [], [], _ => rfl
  | _ :: _, _ :: _, ⟨_, h⟩ => by simp [PNs.len h]
theorem setAll_len {fr fr1 : Frame} : ∀ {is : List Nat} {vs : List PV}, setAll fr is vs = some fr1 → is.length = vs.length := by
  intro is
  induction is generalizing fr with
  | nil => intro vs h; cases vs with
    | nil => rfl
    | cons => cases h
  | cons i is ih => intro vs h; cases vs with
    | nil => cases h
    | cons v vs => simp [ih h]
theorem pgr_tup {is : List Nat} {k : Nat} (hK : C.K = X.K) (hc : C.calm = true) (hN : C.N.Nodup) (h : PNs J C es is) : PGr X J C (.Tuple es k pos) (fun v fr st => assignT (.tp is) v fr st) := by
  obtain ⟨h1, h2, h3⟩ := pgs_names (X := X) (J := J) hN h
  refine PG.imp (PG.or (pg_tup hc h1 h2 h3) (pg_lst hc h1 h2 h3)) fun v σ H Q hq => ?_
  obtain ⟨L, fr, st, w, hR, hF, r, hp⟩ := hq
  unfold assignT at hp
  cases w <;> try exact hp.elim
  case tup ws =>
    obtain ⟨p, xs, rfl, hx, rx⟩ := r.sqT hR
    refine .inl ⟨p, xs, rfl, by rw [hK]; exact hx, ?_, L, fr, st, ws, hR, hF, rx, hp⟩
    cases e : setAll fr is ws with
    | none => simp only [e] at hp
    | some fr1 => rw [← rx.length, ← setAll_len e, h.len]
  case obj i =>
    cases e1 : st[i]? with
    | none => simp only [e1] at hp
    | some cl => cases cl with
      | lst ws =>
        simp only [e1] at hp
        cases r with
        | obj q1 =>
          obtain ⟨xs, q2, q3⟩ := cell_lst hR q1 e1
          refine .inr ⟨_, xs, rfl, by rw [hK]; exact .inl (.inl q2), ?_, L, fr, st, ws, hR, hF, q3, hp⟩
          cases e : setAll fr is ws with
          | none => simp only [e] at hp
          | some fr1 => rw [← q3.length, ← setAll_len e, h.len]
      | ins _ _ _ => simp only [e1] at hp
      | dead => simp only [e1] at hp
def notTup : PySem.Expr → Bool
  | .Tuple _ _ _ => false
  | _ => true
theorem stores_of {ts : List PySem.Expr} {k : Nat} (h : notTup e = true) (env : Env) : swappedStores [.Tuple ts k tpos] e env = pure none := by
  cases e <;> first | rfl | cases h
theorem sole_of {ts : List PySem.Expr} {k : Nat} (l : Nat) (env : Env) : swapsWithSole [.Tuple ts k tpos] e l env = pure false := by
  cases e <;> rfl
theorem psr_setT {is : List Nat} {k : Nat} (hK : C.K = X.K) (hc : C.calm = true) (hN : C.N.Nodup) (h : PNs J C es is) (hn : notTup e = true) (he : PEr X J C e (evE G ca)) : PSr X J C (.Assign [.Tuple es k tpos] e pos) (exS G (.setT is ca)) := fun W tk =>
  PS.imp (ps_asg (he W tk) (pgr_tup (X := X) (J := J) hK hc hN h) (sole_of _ _) (stores_of hn _)) fun D σ H hq => by
    obtain ⟨L, fr, st, hR, hF, hp⟩ := hq
    simp only [exS] at hp
    refine ⟨L, fr, st, hR, hF, RP.imp (SR.toS hF hp) ?_⟩
    rintro x H1 ⟨L1, v, st1, le, hR1, r, hp1⟩
    refine ⟨L1, fr, st1, v, hR1, hF.mono le, r, ?_⟩
    cases e1 : assignT (.tp is) v fr st1 with
    | none => rw [e1] at hp1; exact hp1.elim
    | some fr1 => rw [e1] at hp1; dsimp only; rw [e1]; exact hp1
end
end Ev

set_option Elab.async false
set_option linter.all false
set_option maxRecDepth 100000
set_option maxHeartbeats 2000000
/-! Stores, loops. -/
namespace Ev
open PySem PySem.Spec PyProof.Rows L2
section
variable {X : Fx} {J : Jd} {C : Cx} {G : Gl} {a b c e o i o2 i2 e2 : PySem.Expr} {ca cb cc co ci ce co2 ci2 ce2 : CE} {es : List PySem.Expr} {ces : List CE} {pos tpos : Pos} {st : Stmt} {sts : List Stmt} {cs : CS} {css : List CS}
/-! ### o[i] = v, o.f = v, x op= v -/
theorem assign_sub (h : plainIx i = true) (env : Env) (v : Value) : assign (.Subscript o i pos) env v = (do
      let ov ← holding [v] (eval o env)
      let iv ← holding [v, ov] (eval i env)
      standAt pos
      holding [v, ov, iv] (setItem ov iv v)
      release [v, ov, iv] []) := by
  cases i <;> first | rfl | cases h
theorem setSub_of {L : Lg} {H : Hp} {st st' : Store} (hR : Rel X L H st) {x k v : PV} {xo xk xv : V} {Q : Hp → Prop} (ro : RV X L x xo) (rk : RV X L k xk) (rv : RV X L v xv) (h : setSub x k v st = some st')
    (q : ∀ H', Rel X L H' st' → Q H') : rSetL xo xk xv H Q := by
  unfold setSub at h
  cases x <;> try cases h
  cases k <;> try cases h
  rename_i j k
  cases e1 : st[j]? with
  | none => simp only [e1] at h; cases h
  | some cl => cases cl with
    | lst vs =>
      simp only [e1] at h
      cases e2 : Ev.ixN vs.length k with
      | none => rw [e2] at h; cases h
      | some m =>
        rw [e2] at h; cases h
        cases ro with
        | obj h1 =>
          cases rk
          obtain ⟨xs, h2, h3⟩ := cell_lst hR h1 e1
          refine ⟨_, xs, k, m, rfl, rfl, h2, by rw [← h3.length]; exact e2, q _ (hR.write h1 ⟨_, upd_same, h3.set rv m⟩)⟩
    | ins _ _ _ => simp only [e1] at h; cases h
    | dead => simp only [e1] at h; cases h
theorem sole_sub {n : Pos} (l : Nat) (env : Env) : swapsWithSole [.Subscript o i n] e l env = pure false := by
  cases e <;> rfl
theorem psr_setSub {tpos : Pos} (hi : plainIx i = true) (ho : PEr X J C o (evE G co)) (hx : PEr X J C i (evE G ci)) (he : PEr X J C e (evE G ce)) :
    PSr X J C (.Assign [.Subscript o i tpos] e pos) (exS G (.setSub co ci ce)) := fun W tk =>
  PS.imp (ps_asg (he W tk) (pg_sub (ho W tk) (hx W tk) set_list (assign_sub hi C.env)) (sole_sub _ _) (by cases e <;> rfl)) fun D σ H hq => by
    obtain ⟨L, fr, st, hR, hF, hp⟩ := hq
    simp only [exS] at hp
    refine ⟨L, fr, st, hR, hF, RP.imp (SR.toS (R := RV X) hF hp) ?_⟩
    rintro x H1 ⟨L1, v, st1, le1, hR1, r1, hp1⟩
    refine ⟨L1, fr, st1, hR1, hF.mono le1, RP.imp (SR.toS (R := RV X) (hF.mono le1) hp1) ?_⟩
    rintro y H2 ⟨L2, w, st2, le2, hR2, r2, hp2⟩
    refine ⟨L2, fr, st2, hR2, (hF.mono le1).mono le2, RP.imp (SR.toS (R := RV X) ((hF.mono le1).mono le2) hp2) ?_⟩
    rintro z H3 ⟨L3, k, st3, le3, hR3, r3, hp3⟩
    cases e1 : setSub w k v st3 with
    | none => rw [e1] at hp3; exact hp3.elim
    | some st4 =>
      rw [e1] at hp3
      exact setSub_of hR3 (r2.mono le3) r3 ((r1.mono le2).mono le3) e1 fun H4 hR4 => hp3.here hR4 (((hF.mono le1).mono le2).mono le3)
theorem psr_parSub {p1 p2 : Pos} {k k2 : Nat} {pt pt2 : Pos} (hK : C.K = X.K) (hc : C.calm = true) (hi : plainIx i = true) (hi2 : plainIx i2 = true) (hs : noStar e = true) (hs2 : noStar e2 = true)
    (ho : PEr X J C o (evE G co)) (hx : PEr X J C i (evE G ci)) (ho2 : PEr X J C o2 (evE G co2)) (hx2 : PEr X J C i2 (evE G ci2)) (he : PEr X J C e (evE G ce)) (he2 : PEr X J C e2 (evE G ce2))
    (hw : swappedStores [.Tuple [.Subscript o i p1, .Subscript o2 i2 p2] k pt] (.Tuple [e, e2] k2 pt2) C.env = pure none) :
    PSr X J C (.Assign [.Tuple [.Subscript o i p1, .Subscript o2 i2 p2] k pt] (.Tuple [e, e2] k2 pt2) pos) (exS G (.parSub co ci co2 ci2 ce ce2)) := fun W tk =>
  PS.imp (ps_asg (pe_tup (pa_cons (he W tk) (pa_cons (he2 W tk) pa_nil (star_of hs2 _ _)) (star_of hs _ _)))
    (pg_tup hc (pgs_cons (pg_sub (ho W tk) (hx W tk) set_list (assign_sub hi C.env)) (pgs_cons (pg_sub (ho2 W tk) (hx2 W tk) set_list (assign_sub hi2 C.env)) pgs_nil))) (sole_of _ _) hw) fun D σ H hq => by
    obtain ⟨L, fr, st, hR, hF, hp⟩ := hq
    simp only [exS] at hp
    refine ⟨L, fr, st, hR, hF, RP.imp (SR.toS (R := RV X) hF hp) ?_⟩
    rintro x H1 ⟨L1, v, st1, le1, hR1, r1, hp1⟩
    have hF1 := hF.mono le1
    refine ⟨L1, fr, st1, hR1, hF1, RP.imp (SR.toS (R := RV X) hF1 hp1) ?_⟩
    rintro x2 H2 ⟨L2, v2, st2, le2, hR2, r2, hp2⟩
    have hF2 := hF1.mono le2
    refine ⟨by show 2 ≤ sizeLine; decide, fun p np => ⟨p, [x, x2], rfl, .inl (.inl upd_same), rfl, x, [x2], rfl, ?_⟩⟩
    have hR2' := hR2.newH (o := .tup [x, x2]) np
    refine ⟨L2, fr, st2, hR2', hF2, RP.imp (SR.toS (R := RV X) hF2 hp2) ?_⟩
    rintro y H3 ⟨L3, w, st3, le3, hR3, r3, hp3⟩
    have hF3 := hF2.mono le3
    refine ⟨L3, fr, st3, hR3, hF3, RP.imp (SR.toS (R := RV X) hF3 hp3) ?_⟩
    rintro z H4 ⟨L4, kk, st4, le4, hR4, r4, hp4⟩
    have hF4 := hF3.mono le4
    cases e1 : setSub w kk v st4 with
    | none => rw [e1] at hp4; exact hp4.elim
    | some st5 =>
      rw [e1] at hp4
      refine setSub_of hR4 (r3.mono le4) r4 (((r1.mono le2).mono le3).mono le4) e1 fun H5 hR5 => ⟨x2, [], rfl, ?_⟩
      refine ⟨L4, fr, st5, hR5, hF4, RP.imp (SR.toS (R := RV X) hF4 hp4) ?_⟩
      rintro y2 H6 ⟨L6, w2, st6, le6, hR6, r6, hp6⟩
      have hF6 := hF4.mono le6
      refine ⟨L6, fr, st6, hR6, hF6, RP.imp (SR.toS (R := RV X) hF6 hp6) ?_⟩
      rintro z2 H7 ⟨L7, k7, st7, le7, hR7, r7, hp7⟩
      cases e3 : setSub w2 k7 v2 st7 with
      | none => rw [e3] at hp7; exact hp7.elim
      | some st8 =>
        rw [e3] at hp7
        exact setSub_of hR7 (r6.mono le7) r7 ((((r2.mono le3).mono le4).mono le6).mono le7) e3 fun H8 hR8 => ⟨rfl, hp7.here hR8 (hF6.mono le7)⟩
/-- what of the table makes an attribute storable -/
def FldOk (X : Fx) (G : Gl) : Prop := ∀ c f, fieldOk G c f = true → NoAttr X.K (X.cA c) (X.aN f)
theorem psr_setAttr {f : Nat} (hK : C.K = X.K) (hT : FldOk X G) (hn : noComp e = true) (ho : PEr X J C o (evE G co)) (he : PEr X J C e (evE G ce)) :
    PSr X J C (.Assign [.Attribute o (X.aN f) tpos] e pos) (exS G (.setAttr co f ce)) := fun W tk =>
  PS.imp (ps_fld (f := X.aN f) (ho W tk) (he W tk) (swaps_of hn _ _ _)) fun D σ H hq => by
    obtain ⟨L, fr, st, hR, hF, hp⟩ := hq
    simp only [exS] at hp
    refine ⟨L, fr, st, hR, hF, RP.imp (SR.toS (R := RV X) hF hp) ?_⟩
    rintro x H1 ⟨L1, v, st1, le1, hR1, r1, hp1⟩
    have hF1 := hF.mono le1
    refine ⟨L1, fr, st1, hR1, hF1, RP.imp (SR.toS (R := RV X) hF1 hp1) ?_⟩
    rintro y H2 ⟨L2, w, st2, le2, hR2, r2, hp2⟩
    cases e1 : setFld G w f v st2 with
    | none => rw [e1] at hp2; exact hp2.elim
    | some st3 =>
      rw [e1] at hp2
      unfold setFld at e1
      cases w <;> try cases e1
      rename_i j
      cases q1 : st2[j]? with
      | none => simp only [q1] at e1; cases e1
      | some cl => cases cl with
        | ins c ks vs =>
          simp only [q1] at e1
          by_cases hz : (decide (ks.length < 900) && fieldOk G c f) = true
          · rw [if_pos hz] at e1
            cases e1
            rw [Bool.and_eq_true, decide_eq_true_eq] at hz
            cases r2 with
            | obj h1 =>
              obtain ⟨dx, xs, h2, h3, ok, fre, h4⟩ := cell_ins hR2 h1 q1
              have na := hT c f hz.2
              refine ⟨_, _, dx, _, rfl, h2, by rw [hK]; exact ok.cl, by rw [hK]; exact na, by rw [prs_len h3]; omega, ?_⟩
              refine hp2.here (hR2.write h1 ⟨dx, putG f x ks xs, ?_, putG_len h3, ok, fun k hk => ?_, h4.put (r1.mono le2) h3⟩) (hF1.mono le2)
              · rw [upd_same, prs_put h3]
              · have : ∀ {ks : List Nat}, k ∈ putK f ks → k = f ∨ k ∈ ks := by
                  intro ks
                  induction ks with
                  | nil => intro h; left; simpa [putK] using h
                  | cons j ks ih =>
                    intro h
                    unfold putK at h
                    by_cases q : j = f
                    · rw [if_pos q] at h; exact .inr h
                    · rw [if_neg q] at h
                      rcases List.mem_cons.mp h with z | z
                      · exact .inr (by rw [z]; exact List.mem_cons_self)
                      · exact (ih z).imp id (List.mem_cons_of_mem _)
                rcases this hk with z | z
                · rw [z]; exact na
                · exact fre k z
          · rw [if_neg hz] at e1; cases e1
        | lst _ => simp only [q1] at e1; cases e1
        | dead => simp only [q1] at e1; cases e1
def augOf : BOp → Option Operator
  | .add => some .Add
  | .sub => some .Sub
  | _ => none
theorem psr_aug {n : Nat} {x : Str} {pos' : Pos} {op : BOp} {oper : Operator} (ho : augOf op = some oper) (hJ : J.fix ≠ some n) (hN : C.N.Nodup) (hi : C.N[n]? = some x) (hx : Loc C.env.scope x) (hf : C.fn x = true ∨ C.env.scope.names.lookup x = some .local) (he : PEr X J C e (evE G ce)) :
    PSr X J C (.AugAssign (.Name x pos') oper e pos) (exS G (.aug n op ce)) := fun W tk => by
  have hip : PIp C oper (fun x y H Q => ∃ i j : Int, x = .int i ∧ y = .int j ∧ ∃ z, augI op (.int i) (.int j) = some z ∧ Q (.int z) H) := by
    intro pins s σ H x y v u Q I r1 r2 h
    obtain ⟨i, j, rfl, rfl, z, e1, q⟩ := h
    cases op <;> cases ho
    · cases e1; exact ip_add pins s σ H _ _ v u Q I r1 r2 ⟨i, j, rfl, rfl, q⟩
    · cases e1; exact ip_sub pins s σ H _ _ v u Q I r1 r2 ⟨i, j, rfl, rfl, q⟩
  refine PS.imp (ps_aug hN hi hx (he W tk) hip hf) fun D σ H hq => ?_
  obtain ⟨L, fr, st, hR, hF, hp⟩ := hq
  simp only [exS] at hp
  cases e1 : fr[n]? with
  | none => rw [e1] at hp; exact hp.elim
  | some w => cases w with
    | none => rw [e1] at hp; exact hp.elim
    | some w =>
      rw [e1] at hp
      obtain ⟨y, q1, r1⟩ := hF.val n w e1
      refine ⟨y, q1, L, fr, st, hR, hF, RP.imp (SR.toS (R := RV X) hF hp) ?_⟩
      rintro z H1 ⟨L1, v, st1, le1, hR1, r2, hp1⟩
      cases e2 : augI op w v with
      | none => rw [e2] at hp1; exact hp1.elim
      | some k =>
        rw [e2] at hp1
        have e3 := e2
        unfold augI at e3
        cases op <;> cases ho <;> cases w <;> try cases e3
        all_goals (cases v <;> try cases e3)
        all_goals
          cases r1; cases r2
          exact ⟨_, _, rfl, rfl, _, e2, hp1.here hR1 ((hF.mono le1).set (.int _) n hJ)⟩
/-! ### while -/
theorem whl_step {test : Frame → Store → Res PV} {body : Frame → Store → SRes} {n : Nat} : whlL test body (n + 1) = fun fr st => (test fr st).toS fr fun v st1 => condS (truth st1 v) (match body fr st1 with
      | .nx fr2 st2 => whlL test body n fr2 st2
      | .ct fr2 st2 => whlL test body n fr2 st2
      | .bk fr2 st2 => .nx fr2 st2
      | r => r) (.nx fr st1) := by
  funext fr st
  simp only [whlL]
  congr 1
theorem psr_whl {body : List Stmt} {cbody : List CS} (hps : PassesOwn (model C.prog C.w) C.A C.env C.xe) (hc : PTr X J C c (evE G cc)) (hb : PSsr X J C body (exSs G cbody)) : PSr X J C (.While c body [] pos) (exS G (.whl cc cbody)) := fun W tk =>
  PS.imp (ps_while hps (hc W tk) (hb W tk)) fun D σ H hq => by
    obtain ⟨L, fr, st, hR, hF, hp⟩ := hq
    simp only [exS] at hp
    refine ⟨fun m σ' H' => ∃ (L' : Lg) (fr' : Frame) (st' : Store), Rel X L' H' st' ∧ FRel X J L' fr' σ' ∧ SR X J W D L' (whlL (evE G cc) (exSs G cbody) m fr' st'), ⟨whlFuel, L, fr, st, hR, hF, hp⟩, ?_⟩
    rintro m σ1 H1 ⟨L1, fr1, st1, hR1, hF1, hp1⟩
    cases m with
    | zero => exact hp1.elim
    | succ m =>
      rw [whl_step] at hp1
      dsimp only at hp1
      refine ⟨L1, fr1, st1, hR1, hF1, ?_⟩
      revert hp1
      cases evE G cc fr1 st1 with
      | stuck => exact fun hp => hp
      | exc c ks vs st1 => exact fun hp L' H' cls d le r1 r2 => hp L' H' σ1 cls d le r1 (hF1.mono le) r2
      | ok v st2 =>
        intro hp
        simp only [Res.bind, Res.toS] at hp ⊢
        cases e : truth st2 v with
        | none => rw [e] at hp; exact hp.elim
        | some k =>
          rw [e] at hp
          intro L' H' b le r1 r2
          subst r2
          cases k with
          | false => rw [if_neg Bool.false_ne_true]; exact (SR.mono le hp).here r1 (hF1.mono le)
          | true =>
            rw [if_pos rfl]
            refine ⟨fun σ' H' => ∃ (L' : Lg) (fr' : Frame) (st' : Store), Rel X L' H' st' ∧ FRel X J L' fr' σ' ∧ SR X J W D L' (whlL (evE G cc) (exSs G cbody) m fr' st'), fun σ' H' h => ⟨m, Nat.lt_succ_self m, h⟩, L', fr1, st2, r1, hF1.mono le, ?_⟩
            have hp' := SR.mono le hp
            simp only [condS] at hp'
            cases e3 : exSs G cbody fr1 st2 with
            | nx fr3 st3 => rw [e3] at hp'; exact fun L4 H4 σ4 le4 r4 f4 => ⟨L4, fr3, st3, r4, f4, SR.mono le4 hp'⟩
            | ct fr3 st3 => rw [e3] at hp'; exact fun L4 H4 σ4 le4 r4 f4 => ⟨L4, fr3, st3, r4, f4, SR.mono le4 hp'⟩
            | bk fr3 st3 => rw [e3] at hp'; exact hp'
            | rt v st3 => rw [e3] at hp'; exact hp'
            | exc c ks vs fr3 st3 => rw [e3] at hp'; exact hp'
            | stuck => rw [e3] at hp'; exact hp'.elim
end
end Ev

set_option Elab.async false
set_option linter.all false
set_option maxRecDepth 100000
set_option maxHeartbeats 4000000
/-! enumerate of a list or a tuple; walking a list or a tuple. -/
namespace PySem
open Sem (wp)
open AutoSeq1 (wpAny_loadPart')
theorem meets_enumerate_newT (l : Addr) (items : Array Value) (n : Nat) (dct : Option Addr) (sl : Array (Option Value)) :
    Meets (Builtin.«enumerate.__new__» ⟨[.type "enumerate", .ref l], []⟩) (fun _ R s => s.heap.get? l = some { cls := .type "tuple", dict := dct, data := .seq items n, slots := sl } ∧
      R (.ok (.ret (.ref (s.heap.push { cls := .type "tuple_iterator", data := .fields #[.ref l, .int 0 0] }).objs.size)))
        { s with heap := (s.heap.push { cls := .type "tuple_iterator", data := .fields #[.ref l, .int 0 0] }).push { cls := .type "enumerate", data := .fields #[.none, .bool false, .ref s.heap.objs.size, rawInt 0, .none, .none] } }) :=
  .of_wp fun prog w A R s h => by
    obtain ⟨hp, g, d, tk, os⟩ := s; obtain ⟨hl, h⟩ := h
    have hsub := sub_enumerate
    have hL : Heap.IsTuple (Shared.heap ⟨hp, g, d, tk, os⟩) l items := ⟨_, hl, rfl, n, rfl⟩
    wp_walk using wpAny_loadPart' hl
    refine wpAny_stack_any fun st => wpAny_pure ?_
    split
    · rename_i c _ _ _ _ _
      cases (c == Value.type "enumerate")
      · wp_walk using wpAny_loadPart' hl, wpAny_pyIter_tuple hL
        exact ⟨_, rfl, h⟩
      · wp_walk using wpAny_loadPart' hl, wpAny_pyIter_tuple hL
        exact ⟨_, rfl, h⟩
    · wp_walk using wpAny_loadPart' hl, wpAny_pyIter_tuple hL
      exact ⟨_, rfl, h⟩
theorem call_enumerate_tuple {prog : Program} {w : World} {A : Around} {E : Value → Shared → Prop} {s : Shared} {l : Addr} {items : Array Value} {Q : Value → Shared → Prop} (hL : s.heap.IsTuple l items)
    (h : ∀ h', IsEnum h' (s.heap.objs.size + 1) s.heap.objs.size 0 .none → h'.IsTupleIter s.heap.objs.size l 0 → h'.objs.size = s.heap.objs.size + 2 →
      (∀ b o, s.heap.get? b = some o → h'.get? b = some o) → Q (.ref (s.heap.objs.size + 1)) { s with heap := h' }) :
    wpAny (model prog w) A (call (.type "enumerate") [.ref l]) Q E s := by
  obtain ⟨⟨c, dct, dt, sl⟩, hl, hc, n, hd⟩ := hL
  replace hc : c = .type "tuple" := hc
  replace hd : dt = .seq items n := hd
  subst hc hd
  refine callType_new F.called_enumerate (by decide) (F.typeCall_enumerate_1 _) (F.newCall_enumerate_1 _) (fun obj => F.args_object_init_2 obj _) F.entry_enumerate_new
    (meets_enumerate_newT l items n dct sl) ⟨hl, ?_⟩
  have hz : (s.heap.push { cls := .type "tuple_iterator", data := .fields #[.ref l, .int 0 0] }).objs.size = s.heap.objs.size + 1 := Heap.size_push ..
  show _ ∧ _
  rw [hz]
  have he : IsEnum ((s.heap.push { cls := .type "tuple_iterator", data := .fields #[.ref l, .int 0 0] }).push
      { cls := .type "enumerate", data := .fields #[.none, .bool false, .ref s.heap.objs.size, rawInt 0, .none, .none] }) (s.heap.objs.size + 1) s.heap.objs.size 0 .none := by
    have := Heap.get?_push_size (s.heap.push { cls := .type "tuple_iterator", data := .fields #[.ref l, .int 0 0] })
      (o := { cls := .type "enumerate", data := .fields #[.none, .bool false, .ref s.heap.objs.size, rawInt 0, .none, .none] }) rfl
    rw [hz] at this; exact this
  refine ⟨⟨_, he, rfl⟩, h _ he ⟨_, Heap.get?_push_of_some _ (Heap.get?_push_size _ rfl), rfl, rfl⟩ (by rw [Heap.size_push, hz]) fun b o x => Heap.get?_push_of_some _ (Heap.get?_push_of_some _ x)⟩
end PySem
namespace L2
open PySem PySem.Spec PyProof.Rows
/-- the tuple at a, numbered -/
def IteT (K : PySem.W.Frag) (a : Addr) : It :=
  ⟨fun i H => ∃ (xs : List V) (x : V), SqT K H a xs ∧ xs[i]? = some x, fun i H v H' => ∃ T x, v = .ref T ∧ H T = none ∧ H' = upd H T (.tup [.int (i : Nat), x]) ∧ ∀ xs, SqT K H a xs → xs[i]? = some x, fun i H => ∃ xs : List V, SqT K H a xs ∧ xs.length = i⟩
theorem turn_enumT {P : Program} {w : World} {K : PySem.W.Frag} {elts : List Expr} {kk : Nat} {tpos : Pos} (a e it : Addr) (ha : a ≠ it) (hea : e ≠ a) :
    Turn P w K (.Tuple elts kk tpos) (IteT K a) [e, it] e (fun i h => (∃ old, IsEnum h e it ((i : Nat) : Int) old) ∧ h.IsTupleIter it a i ∧ e ≠ it) where
  mem := by simp
  obj := fun i h st b hb => by
    obtain ⟨⟨old, he⟩, ⟨o, ho, hc, hd⟩, _⟩ := st
    have e' : b = e ∨ b = it := by simpa using hb
    rcases e' with z | z
    · rw [z]; exact ⟨_, he, fun v q => nomatch q⟩
    · rw [z]; exact ⟨o, ho, fun v q => by rw [hd] at q; cases q⟩
  keep := fun i h h' st k => let ⟨⟨old, he⟩, hi, hne⟩ := st; ⟨⟨old, k e (by simp) _ he⟩, hi.at fun o q => k it (by simp) o q, hne⟩
  item := by
    intro X hP hw hK hc i pins s σ H E I hf st hg
    subst hP hw hK
    obtain ⟨⟨old, he⟩, hit, hne⟩ := st
    obtain ⟨xs, x, hq, hx⟩ := hg
    obtain ⟨its, rv, p, hz⟩ := I.tuple hq
    have hel : e < s.heap.objs.size := Heap.lt_size he
    have hil : it < s.heap.objs.size := by obtain ⟨_, q, _⟩ := hit; exact Heap.lt_size q
    have hlt : i < its.toArray.size := by
      have := (List.getElem?_eq_some_iff.mp hx).1
      rw [rv.length] at this
      simpa using this
    have hh : X.A.in1.handled = none := I.ok.hd hc
    have D := Draws.tuple (prog := X.prog) (w := X.w) hh it a ha its.toArray
    refine wpAny_pyNext_enum_itemD D he ⟨hit, p⟩ hlt hne (by simp [hne, hea]) fun u h' tk hu ho hst hT hsz hk => ?_
    have ru : RelV x u := by
      obtain ⟨u', hu', r'⟩ := rv.get hx
      have : its.toArray[i]? = some u' := by simpa using hu'
      rw [this] at hu; cases hu; exact r'
    obtain ⟨hit', p'⟩ := hst
    refine ⟨_, rfl, wpAny_letOwnedTupleGo_enum (s := { s with heap := h', toks := tk + 1 }) ho fun h'' he' sb => ?_⟩
    have hT2 : h''.get? s.heap.objs.size = some { cls := .type "tuple", data := .seq #[.int i tk, u] } := (sb.2 _ (Nat.ne_of_gt hel)).trans hT
    have new : ObjOk X.prog X.w (upd H s.heap.objs.size (.tup [.int (i : Nat), x])) h'' s.heap.objs.size (.tup [.int (i : Nat), x]) :=
      ⟨by show 2 ≤ sizeLine; decide, [.int i tk, u], .cons ⟨_, rfl⟩ (.cons ru .nil), ⟨_, hT2, rfl, _, rfl⟩⟩
    have I1 : Inv X pins σ (upd H s.heap.objs.size (.tup [.int (i : Nat), x])) { s with heap := h'', toks := tk + 1 } :=
      I.turnedNew (ch := [e, it]) (fun b ob hb q => (sb.2 b (fun z => hb (by simp [z]))).trans (hk b ob (fun z => hb (by simp [z])) (fun z => hb (by simp [z])) q)) hf (Nat.le_refl _) new
    refine ⟨.ref s.heap.objs.size, _, I1, rfl, ⟨_, x, rfl, I.hok.fresh (Nat.le_refl _), rfl, fun ys hy => by rw [I.tuple_inj hy hq]; exact hx⟩, ⟨⟨u, ?_⟩, hit'.at fun o q => (sb.2 it (Ne.symm hne)).trans q, hne⟩, fun b hb => ?_⟩
    · have e1 : ((i + 1 : Nat) : Int) = (i : Int) + 1 := by omega
      rw [e1]; exact he'
    · have hb' : b < s.heap.objs.size := by
        have e' : b = e ∨ b = it := by simpa using hb
        rcases e' with z | z
        · rw [z]; exact hel
        · rw [z]; exact hil
      rw [upd_ne (Nat.ne_of_lt hb')]
      exact (hf b hb).1
  done := by
    intro X hP hw hK hc i pins s σ H E I hf st hg
    subst hP hw hK
    obtain ⟨⟨old, he⟩, hit, hne⟩ := st
    obtain ⟨xs, hq, hx⟩ := hg
    obtain ⟨its, rv, p, hz⟩ := I.tuple hq
    obtain ⟨f0, f1, f2, f3, f4, f5⟩ := hf it (by simp)
    have hl := rv.length
    have hh : X.A.in1.handled = none := I.ok.hd hc
    have D := Draws.tuple (prog := X.prog) (w := X.w) hh it a ha its.toArray
    have hi : i = its.toArray.size := by simp; omega
    refine wpAny_pyNext_enum_endD D he (by rw [← hi]; exact ⟨hit, p⟩) fun h' eb => ⟨rfl, I.turned (t' := s.toks) (fun b o hb q => eb b o hb q) f0 f1 f3 f4 f5⟩
  self := fun A i s Q E st h => let ⟨⟨_, he⟩, _⟩ := st; wpAny_pyIter_enum he h
/-- enumerate(x), x a list or a tuple -/
def iEnumA (K : PySem.W.Frag) (ta : TA) : TI := fun σ H R => ta σ H fun vs H1 => ∃ a, vs = [.ref a] ∧ ((∃ xs, SqL K H1 a xs ∧ R (Ite K a) H1) ∨ ∃ xs, SqT K H1 a xs ∧ R (IteT K a) H1)
theorem pi_enumA {X : Cx} {e : Expr} {ta : TA} {p pos tpos : Pos} {elts : List Expr} {kk : Nat} (hg : Gl X "enumerate") (hm : X.mg "enumerate" = none) (ha : PA X [e] ta) (hs : starEach [e] X.env = [(false, eval e X.env)]) :
    PI X (.Tuple elts kk tpos) (.Call (.Name "enumerate" p) [e] [] pos) (iEnumA X.K ta) := by
  refine ⟨fun pins s σ H R I h => ?_⟩
  refine Call_ (ld_blt I hg hm boot_enumerate (PyProof.Rows.callWith_type1 (thn (ha.run pos pins s σ H _ I h) fun us s1 ⟨vs, H1, I1, r1, q1⟩ => ?_) hs rfl))
  obtain ⟨a, ex, q⟩ := q1
  subst ex
  cases r1 with
  | cons r rr =>
    cases rr
    cases r
    have fin : ∀ b, b ∈ [s1.heap.objs.size + 1, s1.heap.objs.size] → FpOk X pins H1 b := fun b hb => by
      have e' : b = s1.heap.objs.size + 1 ∨ b = s1.heap.objs.size := by simpa using hb
      have hle : s1.heap.objs.size ≤ b := by
        rcases e' with z | z
        · rw [z]; exact Nat.le_add_right _ _
        · rw [z]; exact Nat.le_refl _
      exact I1.fpOk hle (I1.hok.fresh hle)
    rcases q with ⟨xs, hq, q⟩ | ⟨xs, hq, q⟩
    · obtain ⟨its, rv, p', hz⟩ := I1.list hq
      refine call_enumerate_list p'.isList fun h' he hit hsz hk => wpAny_pyIter_enum he ?_
      have I2 : Inv X pins σ H1 { s1 with heap := h' } := I1.kept (t' := s1.toks) hk
      exact ⟨s1.heap.objs.size + 1, [s1.heap.objs.size + 1, s1.heap.objs.size], _, _, H1, rfl, I2, turn_enum a (s1.heap.objs.size + 1) s1.heap.objs.size, ⟨⟨.none, he⟩, hit, Nat.succ_ne_self _⟩, fin, q⟩
    · obtain ⟨its, rv, p', hz⟩ := I1.tuple hq
      have hlt : a < s1.heap.objs.size := by obtain ⟨o, ho, _⟩ := p'; exact Heap.lt_size ho
      refine call_enumerate_tuple p' fun h' he hit hsz hk => wpAny_pyIter_enum he ?_
      have I2 : Inv X pins σ H1 { s1 with heap := h' } := I1.kept (t' := s1.toks) hk
      exact ⟨s1.heap.objs.size + 1, [s1.heap.objs.size + 1, s1.heap.objs.size], _, _, H1, rfl, I2, turn_enumT a (s1.heap.objs.size + 1) s1.heap.objs.size (Nat.ne_of_lt hlt) (Nat.ne_of_gt (Nat.lt_succ_of_lt hlt)), ⟨⟨.none, he⟩, hit, Nat.succ_ne_self _⟩, fin, q⟩
theorem walk_enumT {K : PySem.W.Frag} {a : Addr} {xs : List V} : Walk (IteT K a) xs.length (fun H => SqT K H a xs) (YPair (fun i => some (.int (i : Nat))) (fun i => xs[i]?)) :=
  ⟨fun i _ hi q => ⟨xs, xs[i], q, by simp [hi]⟩, fun _ q => ⟨xs, q, rfl⟩, fun i H v H' _ q y => by
    obtain ⟨T, x, e1, e2, e3, e4⟩ := y
    exact ⟨T, _, x, e1, e2, e3, rfl, e4 xs q⟩⟩
theorem walk_zipT {K : PySem.W.Frag} {a b : Addr} {xs ys : List V} {n : Nat} (hn : n = min xs.length ys.length) : Walk (RZ.ItzT K a b) n (fun H => SqT K H a xs ∧ SqT K H b ys) (YPair (fun i => xs[i]?) (fun i => ys[i]?)) := by
  refine ⟨fun i H hi q => ⟨xs, ys, xs[i]'(by omega), ys[i]'(by omega), q.1, q.2, by simp, by simp⟩, fun H q => ⟨xs, ys, q.1, q.2, by omega⟩, fun i H v H' _ q y => ?_⟩
  obtain ⟨T, x, z, e1, e2, e3, e4, e5⟩ := y
  exact ⟨T, x, z, e1, e2, e3, e4 xs q.1, e5 ys q.2⟩
theorem walk_revT {K : PySem.W.Frag} {a : Addr} {xs : List V} : Walk (RT.ItvT K a xs.length) xs.length (fun H => SqT K H a xs) (fun i H x H' => H' = H ∧ xs[xs.length - 1 - i]? = some x) :=
  ⟨fun i _ hi q => ⟨hi, xs, xs[xs.length - 1 - i]'(by omega), q, by simp⟩, fun _ q => Nat.le_refl _, fun i H x H' _ q y => ⟨y.1, y.2 xs q⟩⟩
/-- a list or a tuple, walked -/
def iSeq (K : PySem.W.Frag) (tl : TE) : TI := fun σ H R => tl σ H fun x H1 => ∃ a, x = .ref a ∧ ((∃ xs, SqL K H1 a xs ∧ R (Itl K a) H1) ∨ ∃ xs, SqT K H1 a xs ∧ R (Itt K a) H1)
theorem pi_seq {X : Cx} {tg l : Expr} {tl : TE} (hl : PE X l tl) : PI X tg l (iSeq X.K tl) := by
  refine ⟨fun pins s σ H R I h => ?_⟩
  refine thn (hl.run pins s σ H _ I h) fun v s1 ⟨x, H1, I1, r1, q1⟩ => ?_
  obtain ⟨a, e, q⟩ := q1
  subst e
  cases r1
  rcases q with ⟨xs, hq, q⟩ | ⟨xs, hq, q⟩
  · obtain ⟨its, rv, p, hz⟩ := I1.list hq
    refine wpAny_pyIter_list p.isList ?_
    refine ⟨s1.heap.objs.size, [s1.heap.objs.size], _, _, H1, rfl, I1.kept (t' := s1.toks) fun b o e => Heap.get?_push_of_some _ e, turn_list a _, ⟨_, Heap.get?_push_size _ rfl, rfl, rfl⟩, fun b hb => ?_, q⟩
    have e : b = s1.heap.objs.size := by simpa using hb
    subst e
    exact I1.fpOk (Nat.le_refl _) (I1.hok.fresh (Nat.le_refl _))
  · obtain ⟨its, rv, p, hz⟩ := I1.tuple hq
    refine wpAny_pyIter_tuple (show s1.heap.IsTuple a its.toArray from p) ?_
    refine ⟨s1.heap.objs.size, [s1.heap.objs.size], _, _, H1, rfl, I1.kept (t' := s1.toks) fun b o e => Heap.get?_push_of_some _ e, turn_tuple a _, ⟨_, Heap.get?_push_size _ rfl, rfl, rfl⟩, fun b hb => ?_, q⟩
    have e : b = s1.heap.objs.size := by simpa using hb
    subst e
    exact I1.fpOk (Nat.le_refl _) (I1.hok.fresh (Nat.le_refl _))
end L2

set_option Elab.async false
set_option linter.all false
set_option maxRecDepth 100000
set_option maxHeartbeats 2000000
/-! What loops walk; for. -/
namespace Ev
open PySem PySem.Spec PyProof.Rows L2
mutual
theorem beq_eq : ∀ {a b : PV}, PV.beq a b = true → a = b
  | .non, b, h => by cases b <;> first | rfl | cases h
  | .bl x, b, h => by cases b <;> first | (simp only [PV.beq, beq_iff_eq] at h; rw [h]) | cases h
  | .int x, b, h => by cases b <;> first | (simp only [PV.beq, decide_eq_true_eq] at h; rw [h]) | cases h
  | .str x, b, h => by cases b <;> first | (simp only [PV.beq, decide_eq_true_eq] at h; rw [h]) | cases h
  | .tup xs, b, h => by cases b <;> first | (simp only [PV.beq] at h; rw [beqs_eq h]) | cases h
  | .flst xs, b, h => by cases b <;> first | (simp only [PV.beq] at h; rw [beqs_eq h]) | cases h
  | .obj x, b, h => by cases b <;> first | (simp only [PV.beq, decide_eq_true_eq] at h; rw [h]) | cases h
  | .ins c k v, b, h => by
    cases b <;> first
      | (simp only [PV.beq, Bool.and_eq_true, decide_eq_true_eq] at h; obtain ⟨h1, h2, h3⟩ := h; rw [h1, h2, beqs_eq h3])
      | cases h
theorem beqs_eq : ∀ {as bs : List PV}, PV.beqs as bs = true → as = bs
  | [], bs, h => by cases bs <;> first | rfl | cases h
  | a :: as, bs, h => by
    cases bs with
    | nil => cases h
    | cons b bs =>
      simp only [PV.beqs, Bool.and_eq_true] at h
      rw [beq_eq h.1, beqs_eq h.2]
end
/-- the walk yields these items, while the cells stay -/
structure StrOk (X : Fx) (L : Lg) (Jt : It) (items : List PV) (wt : List (Nat × List PV)) : Prop where
  goes : ∀ (i : Nat), i < items.length → ∀ (L' : Lg) (H' : Hp) (st' : Store), L.lef L' → Rel X L' H' st' → watch st' wt = true → Jt.go i H'
  stops : ∀ (L' : Lg) (H' : Hp) (st' : Store), L.lef L' → Rel X L' H' st' → watch st' wt = true → Jt.stop items.length H'
  yields : ∀ (i : Nat) v, items[i]? = some v → ∀ (L' : Lg) (H' : Hp) (st' : Store) (x : V) (H'' : Hp), L.lef L' → Rel X L' H' st' → watch st' wt = true → Jt.yld i H' x H'' →
    ∃ L'' : Lg, L'.le L'' ∧ Rel X L'' H'' st' ∧ RV X L'' v x
theorem StrOk.mono {X : Fx} {L L' : Lg} (h : L.lef L') {Jt : It} {items : List PV} {wt : List (Nat × List PV)} (s : StrOk X L Jt items wt) : StrOk X L' Jt items wt :=
  ⟨fun i hi L1 H1 st1 le => s.goes i hi L1 H1 st1 (h.trans le), fun L1 H1 st1 le => s.stops L1 H1 st1 (h.trans le), fun i v e L1 H1 st1 x H2 le => s.yields i v e L1 H1 st1 x H2 (h.trans le)⟩
def PIr (X : Fx) (J : Jd) (C : Cx) (tg it : PySem.Expr) (f : Frame → Store → Res Stm) : Prop := ∀ W, Takes C W → PI C tg it (fun σ H R =>
  ∃ (L : Lg) (fr : Frame) (st : Store), Rel X L H st ∧ FRel X J L fr σ ∧ RP X L (fun L' (s : Stm) (Jt : It) => StrOk X L' Jt s.1 s.2) W σ (f fr st) R)
section
variable {X : Fx} {J : Jd} {C : Cx} {G : Gl} {a b c e o i : PySem.Expr} {ca cb cc co ci ce : CE} {es : List PySem.Expr} {ces : List CE} {pos tpos : Pos} {tg it : PySem.Expr}
/-- the list of a cell that stays -/
theorem watch_cell {L L' : Lg} {H' : Hp} {st' : Store} {j : Nat} {p : Addr} {vs : List PV} {r : List (Nat × List PV)} (e : L.m[j]? = some p) (le : L.lef L') (hR : Rel X L' H' st') (hw : watch st' ((j, vs) :: r) = true) :
    ∃ xs, H' p = some (.lst xs) ∧ RVs X L' vs xs := by
  simp only [watch, Bool.and_eq_true] at hw
  cases q : st'[j]? with
  | none => rw [q] at hw; cases hw.1
  | some cl => cases cl with
    | lst ys =>
      rw [q] at hw
      have : ys = vs := beqs_eq hw.1
      subst this
      exact cell_lst hR (le.m j p e) q
    | ins _ _ _ => rw [q] at hw; cases hw.1
    | dead => rw [q] at hw; cases hw.1
/-- a source: a tuple that stays, or a list, read anew at each turn -/
theorem src_of {L : Lg} {H : Hp} {st : Store} (hR : Rel X L H st) {v : PV} {x : V} {s : Stm} (r : RV X L v x) (h : stmOf st v = some s) :
    ∃ p, x = .ref p ∧ ((isTup v = true ∧ (∃ xs, SqT X.K H p xs ∧ RVs X L s.1 xs) ∧ ∀ (L' : Lg) (H' : Hp) (st' : Store), L.lef L' → Rel X L' H' st' → watch st' s.2 = true → ∃ xs, SqT X.K H' p xs ∧ RVs X L' s.1 xs) ∨
      (isTup v = false ∧ (∃ xs, SqL X.K H p xs ∧ RVs X L s.1 xs) ∧ ∀ (L' : Lg) (H' : Hp) (st' : Store), L.lef L' → Rel X L' H' st' → watch st' s.2 = true → ∃ xs, SqL X.K H' p xs ∧ RVs X L' s.1 xs)) := by
  cases v with
  | tup vs =>
    cases h
    cases r with
    | tup q1 q2 => exact ⟨_, rfl, .inl ⟨rfl, ⟨_, .inl (.inl (hR.sub _ _ q1)), q2⟩, fun L' H' st' le hR' _ => ⟨_, .inl (.inl (hR'.sub _ _ (le.F _ _ q1))), q2.monoF le⟩⟩⟩
    | ktup q1 q2 => exact ⟨_, rfl, .inl ⟨rfl, ⟨_, .inr q1, q2⟩, fun L' H' st' le hR' _ => ⟨_, .inr q1, q2.monoF le⟩⟩⟩
  | flst vs =>
    cases h
    cases r with
    | flst q1 q2 => exact ⟨_, rfl, .inr ⟨rfl, ⟨_, .inl (.inr ⟨_, hR.sub _ _ q1⟩), q2⟩, fun L' H' st' le hR' _ => ⟨_, .inl (.inr ⟨_, hR'.sub _ _ (le.F _ _ q1)⟩), q2.monoF le⟩⟩⟩
    | kflst q1 q2 => exact ⟨_, rfl, .inr ⟨rfl, ⟨_, .inr q1, q2⟩, fun L' H' st' le hR' _ => ⟨_, .inr q1, q2.monoF le⟩⟩⟩
  | obj j =>
    unfold stmOf at h
    cases q : st[j]? with
    | none => simp only [q] at h; cases h
    | some cl => cases cl with
      | lst vs =>
        simp only [q] at h; cases h
        cases r with
        | obj q1 =>
          obtain ⟨xs, q2, q3⟩ := cell_lst hR q1 q
          exact ⟨_, rfl, .inr ⟨rfl, ⟨xs, .inl (.inl q2), q3⟩, fun L' H' st' le hR' hw => by
            obtain ⟨ys, e1, e2⟩ := watch_cell q1 le hR' hw
            exact ⟨ys, .inl (.inl e1), e2⟩⟩⟩
      | ins _ _ _ => simp only [q] at h; cases h
      | dead => simp only [q] at h; cases h
  | _ => cases h
theorem str_list {L : Lg} {p : Addr} {items : List PV} {wt : List (Nat × List PV)} (h : ∀ (L' : Lg) (H' : Hp) (st' : Store), L.lef L' → Rel X L' H' st' → watch st' wt = true → ∃ xs, SqL X.K H' p xs ∧ RVs X L' items xs) : StrOk X L (Itl X.K p) items wt := by
  refine ⟨fun i hi L' H' st' le hR hw => ?_, fun L' H' st' le hR hw => ?_, fun i v e L' H' st' x H'' le hR hw y => ?_⟩
  · obtain ⟨xs, q, r⟩ := h L' H' st' le hR hw
    exact ⟨xs, xs[i]'(by rw [← r.length]; exact hi), q, by simp⟩
  · obtain ⟨xs, q, r⟩ := h L' H' st' le hR hw
    exact ⟨xs, q, by rw [r.length]; exact Nat.le_refl _⟩
  · obtain ⟨xs, q, r⟩ := h L' H' st' le hR hw
    obtain ⟨z, e1, e2⟩ := r.get e
    obtain ⟨y1, y2⟩ := y
    subst y1
    have := y2 xs q
    rw [e1] at this; cases this
    exact ⟨L', .rfl', hR, e2⟩
theorem str_tup {L : Lg} {p : Addr} {items : List PV} {wt : List (Nat × List PV)} (h : ∀ (L' : Lg) (H' : Hp) (st' : Store), L.lef L' → Rel X L' H' st' → watch st' wt = true → ∃ xs, SqT X.K H' p xs ∧ RVs X L' items xs) : StrOk X L (Itt X.K p) items wt := by
  refine ⟨fun i hi L' H' st' le hR hw => ?_, fun L' H' st' le hR hw => ?_, fun i v e L' H' st' x H'' le hR hw y => ?_⟩
  · obtain ⟨xs, q, r⟩ := h L' H' st' le hR hw
    exact ⟨xs, xs[i]'(by rw [← r.length]; exact hi), q, by simp⟩
  · obtain ⟨xs, q, r⟩ := h L' H' st' le hR hw
    exact ⟨xs, q, by rw [r.length]; exact Nat.le_refl _⟩
  · obtain ⟨xs, q, r⟩ := h L' H' st' le hR hw
    obtain ⟨z, e1, e2⟩ := r.get e
    obtain ⟨y1, y2⟩ := y
    subst y1
    have := y2 xs q
    rw [e1] at this; cases this
    exact ⟨L', .rfl', hR, e2⟩
theorem RP.opt {α β γ δ : Type} {L : Lg} {R : Lg → γ → δ → Prop} {W : WX} {σ : L2.St} {r : Res γ} {f : Store → γ → Option α} {Rα : Lg → α → β → Prop} {Q : β → Hp → Prop} (p : RP X L Rα W σ (r.bind fun v st1 => opt st1 (f st1 v)) Q) :
    RP X L R W σ r (fun y H1 => ∃ (L1 : Lg) (v : γ) (st1 : Store) (s : α), L.le L1 ∧ Rel X L1 H1 st1 ∧ R L1 v y ∧ f st1 v = some s ∧ ∀ b, Rα L1 s b → Q b H1) := by
  refine RP.imp (RP.bind p) ?_
  rintro y H1 ⟨L1, v, st1, le, hR1, r, hp⟩
  cases e : f st1 v with
  | none => rw [e] at hp; exact hp.elim
  | some s => rw [e] at hp; exact ⟨L1, v, st1, s, le, hR1, r, e, fun b hb => hp L1 H1 b .rfl' hR1 hb⟩
theorem pir_seq (hK : C.K = X.K) (he : PEr X J C e (evE G ce)) : PIr X J C tg e (evI G (.seq ce)) := fun W tk =>
  PI.imp (pi_seq (he W tk)) fun σ H R h => by
    obtain ⟨L, fr, st, hR, hF, hp⟩ := h
    simp only [evI] at hp
    refine ⟨L, fr, st, hR, hF, RP.imp (RP.opt (R := RV X) hp) ?_⟩
    rintro x H1 ⟨L1, v, st1, s, le, hR1, r, e1, q⟩
    rw [hK]
    obtain ⟨p, rfl, h | h⟩ := src_of hR1 r e1
    · obtain ⟨_, ⟨xs, h1, h2⟩, h3⟩ := h
      exact ⟨p, rfl, .inr ⟨xs, h1, q _ (str_tup h3)⟩⟩
    · obtain ⟨_, ⟨xs, h1, h2⟩, h3⟩ := h
      exact ⟨p, rfl, .inl ⟨xs, h1, q _ (str_list h3)⟩⟩
theorem rangeL_get {lo : Int} {n i : Nat} {v : PV} (h : (rangeL lo n)[i]? = some v) : i < n ∧ v = .int (lo + i) := by
  unfold rangeL at h
  rw [List.getElem?_map] at h
  by_cases hi : i < n
  · rw [List.getElem?_range hi] at h
    simp only [Option.map_some, Option.some.injEq] at h
    exact ⟨hi, h.symm⟩
  · have : (List.range n)[i]? = none := by simp; omega
    rw [this] at h; cases h
theorem str_rng {L : Lg} {lo : Int} {n : Nat} : StrOk X L (Itr lo n) (rangeL lo n) [] := by
  have hl : (rangeL lo n).length = n := by simp [rangeL]
  refine ⟨fun i hi L' H' st' le hR hw => by rw [hl] at hi; exact hi, fun L' H' st' le hR hw => by rw [hl]; exact Nat.le_refl n, fun i v e L' H' st' x H'' le hR hw y => ?_⟩
  obtain ⟨y1, y2⟩ := y
  obtain ⟨_, rfl⟩ := rangeL_get e
  subst y1; subst y2
  exact ⟨L', .rfl', hR, .int _⟩
/-- a downward range -/
def rangeD (i : Int) (n : Nat) : List PV := (List.range n).map fun k => .int (i - (k : Nat))
theorem str_rngD {L : Lg} {i : Int} {n : Nat} : StrOk X L (Itc i (-1) n) (rangeD i n) [] := by
  have hl : (rangeD i n).length = n := by simp [rangeD]
  refine ⟨fun k hk L' H' st' le hR hw => by rw [hl] at hk; exact hk, fun L' H' st' le hR hw => by rw [hl]; exact Nat.le_refl n, fun k v e L' H' st' x H'' le hR hw y => ?_⟩
  obtain ⟨y1, y2⟩ := y
  unfold rangeD at e
  rw [List.getElem?_map] at e
  by_cases hi : k < n
  · rw [List.getElem?_range hi] at e
    simp only [Option.map_some, Option.some.injEq] at e
    subst y1; subst y2; subst e
    refine ⟨L', .rfl', hR, ?_⟩
    have : i + (k : Int) * (-1) = i - (k : Int) := by omega
    rw [this]
    exact .int _
  · have : (List.range n)[k]? = none := by simp; omega
    rw [this] at e; cases e
theorem smallI_of {i : Int} (h : smallI i = true) : -(2 ^ 62) ≤ i ∧ i < 2 ^ 62 := by simpa [smallI] using h
theorem RP.bindE {α β γ δ : Type} {L : Lg} {R : Lg → α → β → Prop} {R' : Lg → γ → δ → Prop} {W : WX} {σ : L2.St} {r : Res γ} {g : γ → Store → Res α} {Q : β → Hp → Prop} (p : RP X L R W σ (r.bind g) Q) :
    RP X L R' W σ r (fun y H1 => ∃ (L1 : Lg) (a : γ) (st1 : Store), r = .ok a st1 ∧ L.le L1 ∧ Rel X L1 H1 st1 ∧ R' L1 a y ∧ RP X L1 R W σ (g a st1) Q) := by
  cases r with
  | ok a st => exact fun L1 H1 b e r1 r2 => ⟨L1, a, st, rfl, e, r1, r2, RP.mono e p⟩
  | exc c ks vs st => exact p
  | stuck => exact p
theorem evEs_len : ∀ {ces : List CE} {fr : Frame} {st st1 : Store} {vs : List PV}, evEs G ces fr st = .ok vs st1 → vs.length = ces.length
  | [], fr, st, st1, vs, h => by
    have e : (.ok [] st : Res (List PV)) = .ok vs st1 := h
    cases e; rfl
  | c :: cs, fr, st, st1, vs, h => by
    simp only [evEs] at h
    cases e1 : evE G c fr st with
    | stuck => rw [e1] at h; cases h
    | exc _ _ _ _ => rw [e1] at h; cases h
    | ok v s1 =>
      rw [e1] at h
      simp only [Res.bind] at h
      cases e2 : evEs G cs fr s1 with
      | stuck => rw [e2] at h; cases h
      | exc _ _ _ _ => rw [e2] at h; cases h
      | ok ws s2 =>
        rw [e2] at h
        cases h
        simp [evEs_len e2]
theorem rv_int {L : Lg} {v : PV} {i : Int} {x : V} (h : v = .int i) (r : RV X L v x) : x = .int i := by subst h; cases r; rfl
theorem range1 {v : PV} {items : List PV} (h : rangeOf [v] = some items) : ∃ j : Int, v = .int j ∧ smallI j = true ∧ items = rangeL 0 j.toNat := by
  unfold rangeOf at h
  cases v <;> try cases h
  rename_i j
  by_cases hz : smallI j = true
  · simp only [hz, if_true] at h; cases h; exact ⟨j, rfl, hz, rfl⟩
  · simp only [hz] at h; cases h
theorem range2 {v u : PV} {items : List PV} (h : rangeOf [v, u] = some items) : ∃ i j : Int, v = .int i ∧ u = .int j ∧ smallI i = true ∧ smallI j = true ∧ items = rangeL i (j - i).toNat := by
  unfold rangeOf at h
  cases v <;> cases u <;> try cases h
  rename_i i j
  by_cases hz : (smallI i && smallI j) = true
  · simp only [hz, if_true] at h
    cases h
    rw [Bool.and_eq_true] at hz
    exact ⟨i, j, rfl, rfl, hz.1, hz.2, rfl⟩
  · simp only [hz] at h; cases h
theorem range3 {v u w : PV} {items : List PV} (h : rangeOf [v, u, w] = some items) : ∃ i j : Int, v = .int i ∧ u = .int j ∧ w = .int (-1) ∧ smallI i = true ∧ smallI j = true ∧ items = rangeD i (i - j).toNat := by
  unfold rangeOf at h
  cases v <;> cases u <;> cases w <;> try cases h
  rename_i i j c
  by_cases hz : (smallI i && (smallI j && decide (c = -1))) = true
  · simp only [hz, if_true] at h
    cases h
    simp only [Bool.and_eq_true, decide_eq_true_eq] at hz
    obtain ⟨h1, h2, rfl⟩ := hz
    exact ⟨i, j, rfl, rfl, rfl, h1, h2, rfl⟩
  · simp only [hz] at h; cases h
theorem two_args {L : Lg} {vs : List PV} {xs : List V} (r : RVs X L vs xs) (h : vs.length = 2) : ∃ v u x y, vs = [v, u] ∧ xs = [x, y] ∧ RV X L v x ∧ RV X L u y := by
  cases r with
  | nil => cases h
  | cons a r => cases r with
    | nil => cases h
    | cons b r => cases r with
      | nil => exact ⟨_, _, _, _, rfl, rfl, a, b⟩
      | cons _ _ => simp at h
theorem one_argP {L : Lg} {vs : List PV} {xs : List V} (r : RVs X L vs xs) (h : vs.length = 1) : ∃ v x, vs = [v] ∧ xs = [x] ∧ RV X L v x := by
  cases r with
  | nil => cases h
  | cons a r => cases r with
    | nil => exact ⟨_, _, rfl, rfl, a⟩
    | cons _ _ => simp at h
theorem three_args {L : Lg} {vs : List PV} {xs : List V} (r : RVs X L vs xs) (h : vs.length = 3) : ∃ v u w x y z, vs = [v, u, w] ∧ xs = [x, y, z] ∧ RV X L v x ∧ RV X L u y ∧ RV X L w z := by
  cases r with
  | nil => cases h
  | cons a r => cases r with
    | nil => cases h
    | cons b r => cases r with
      | nil => cases h
      | cons c r => cases r with
        | nil => exact ⟨_, _, _, _, _, _, rfl, rfl, a, b, c⟩
        | cons _ _ => simp at h
theorem pir_rng1 {p : Pos} (hg : L2.Gl C "range") (hm : C.mg "range" = none) (hs : noStar e = true) (he : PEr X J C e (evE G ce)) : PIr X J C tg (.Call (.Name "range" p) [e] [] pos) (evI G (.rng [ce])) := fun W tk =>
  PI.imp (pi_range1 hg hm ((par_cons hs he par_nil) W tk) (star_of hs _ _)) fun σ H R h => by
    obtain ⟨L, fr, st, hR, hF, hp⟩ := h
    simp only [evI] at hp
    refine ⟨L, fr, st, hR, hF, RP.imp (RP.bindE (R' := RVs X) hp) ?_⟩
    rintro xs H1 ⟨L1, vs, st1, e1, le, hR1, r, hp1⟩
    obtain ⟨v, x, rfl, rfl, r0⟩ := one_argP r (evEs_len e1)
    cases q : rangeOf [v] with
    | none => rw [q] at hp1; exact hp1.elim
    | some items =>
      rw [q] at hp1
      obtain ⟨j, rfl, hz, rfl⟩ := range1 q
      cases r0
      exact ⟨j, rfl, (smallI_of hz).1, (smallI_of hz).2, hp1 L1 H1 _ .rfl' hR1 str_rng⟩
theorem pir_rng2 {p : Pos} (hg : L2.Gl C "range") (hm : C.mg "range" = none) (hs : noStar a = true) (hs2 : noStar b = true) (ha : PEr X J C a (evE G ca)) (hb : PEr X J C b (evE G cb)) : PIr X J C tg (.Call (.Name "range" p) [a, b] [] pos) (evI G (.rng [ca, cb])) := fun W tk =>
  PI.imp (pi_range2 hg hm ((par_cons hs ha (par_cons hs2 hb par_nil)) W tk) (by rw [star_of hs, star_of hs2] <;> rfl) (star_of hs2 _ _)) fun σ H R h => by
    obtain ⟨L, fr, st, hR, hF, hp⟩ := h
    simp only [evI] at hp
    refine ⟨L, fr, st, hR, hF, RP.imp (RP.bindE (R' := RVs X) hp) ?_⟩
    rintro xs H1 ⟨L1, vs, st1, e1, le, hR1, r, hp1⟩
    obtain ⟨v, u, x, y, rfl, rfl, r1, r2⟩ := two_args r (evEs_len e1)
    cases q : rangeOf [v, u] with
    | none => rw [q] at hp1; exact hp1.elim
    | some items =>
      rw [q] at hp1
      obtain ⟨i, j, rfl, rfl, hz, hz2, rfl⟩ := range2 q
      cases r1; cases r2
      exact ⟨i, j, rfl, ⟨(smallI_of hz).1, (smallI_of hz).2, (smallI_of hz2).1, (smallI_of hz2).2⟩, hp1 L1 H1 _ .rfl' hR1 str_rng⟩
theorem pir_rng3 {p : Pos} (hg : L2.Gl C "range") (hm : C.mg "range" = none) (hs : noStar a = true) (hs2 : noStar b = true) (hs3 : noStar c = true) (ha : PEr X J C a (evE G ca)) (hb : PEr X J C b (evE G cb)) (hc : PEr X J C c (evE G cc)) :
    PIr X J C tg (.Call (.Name "range" p) [a, b, c] [] pos) (evI G (.rng [ca, cb, cc])) := fun W tk =>
  PI.imp (pi_range3 hg hm ((par_cons hs ha (par_cons hs2 hb (par_cons hs3 hc par_nil))) W tk) (star_of hs _ _) (plain_args (by simp [hs2, hs3]) _ _)) fun σ H R h => by
    obtain ⟨L, fr, st, hR, hF, hp⟩ := h
    simp only [evI] at hp
    refine ⟨L, fr, st, hR, hF, RP.imp (RP.bindE (R' := RVs X) hp) ?_⟩
    rintro xs H1 ⟨L1, vs, st1, e1, le, hR1, r, hp1⟩
    obtain ⟨v, u, w, x, y, z, rfl, rfl, r1, r2, r3⟩ := three_args r (evEs_len e1)
    cases q : rangeOf [v, u, w] with
    | none => rw [q] at hp1; exact hp1.elim
    | some items =>
      rw [q] at hp1
      obtain ⟨i, j, rfl, rfl, rfl, hz, hz2, rfl⟩ := range3 q
      cases r1; cases r2; cases r3
      exact ⟨i, j, -1, (i - j).toNat, rfl, RgC.neg (smallI_of hz).1 (smallI_of hz).2 (smallI_of hz2).1 (smallI_of hz2).2, hp1 L1 H1 _ .rfl' hR1 str_rngD⟩
/-! ### reversed -/
theorem rev_get {α : Type} {xs : List α} {i : Nat} {v : α} (h : xs.reverse[i]? = some v) : i < xs.length ∧ xs[xs.length - 1 - i]? = some v := by
  have hi : i < xs.length := by simpa using (List.getElem?_eq_some_iff.mp h).1
  rw [List.getElem?_reverse hi] at h
  exact ⟨hi, h⟩
theorem pir_rev {p : Pos} (hK : C.K = X.K) (hg : L2.Gl C "reversed") (hm : C.mg "reversed" = none) (hs : noStar e = true) (he : PEr X J C e (evE G ce)) : PIr X J C tg (.Call (.Name "reversed" p) [e] [] pos) (evI G (.rev ce)) := fun W tk =>
  PI.imp (RT.pi_revA hg hm (he W tk) (star_of hs _ _)) fun σ H R h => by
    obtain ⟨L, fr, st, hR, hF, hp⟩ := h
    simp only [evI] at hp
    refine ⟨L, fr, st, hR, hF, RP.imp (RP.bind (R' := RV X) hp) ?_⟩
    rintro x H1 ⟨L1, v, st1, le, hR1, r, hp1⟩
    cases e1 : stmOf st1 v with
    | none => rw [e1] at hp1; exact hp1.elim
    | some s =>
      rw [e1] at hp1
      rw [hK]
      obtain ⟨p, rfl, h | h⟩ := src_of hR1 r e1
      · obtain ⟨_, ⟨xs, h1, h2⟩, h3⟩ := h
        refine ⟨p, xs, rfl, .inr ⟨h1, hp1 L1 H1 _ .rfl' hR1 ⟨fun i hi L' H' st' le' hR' hw => ?_, fun L' H' st' le' hR' hw => ?_, fun i v e L' H' st' x H'' le' hR' hw y => ?_⟩⟩⟩
        · obtain ⟨ys, q, r'⟩ := h3 L' H' st' le' hR' hw
          have hi' : i < s.1.length := by simpa using hi
          rw [h2.length] at hi'
          have hl : ys.length = xs.length := by rw [← r'.length, h2.length]
          exact ⟨hi', ys, ys[xs.length - 1 - i]'(by omega), q, by simp⟩
        · show xs.length ≤ s.1.reverse.length
          rw [List.length_reverse, h2.length]; exact Nat.le_refl _
        · obtain ⟨ys, q, r'⟩ := h3 L' H' st' le' hR' hw
          obtain ⟨hi, e'⟩ := rev_get e
          obtain ⟨z, e2, e3⟩ := r'.get e'
          obtain ⟨y1, y2⟩ := y
          subst y1
          have := y2 ys q
          rw [h2.length] at e2
          rw [this] at e2; cases e2
          exact ⟨L', .rfl', hR', e3⟩
      · obtain ⟨_, ⟨xs, h1, h2⟩, h3⟩ := h
        refine ⟨p, xs, rfl, .inl ⟨h1, hp1 L1 H1 _ .rfl' hR1 ⟨fun i hi L' H' st' le' hR' hw => ?_, fun L' H' st' le' hR' hw => ?_, fun i v e L' H' st' x H'' le' hR' hw y => ?_⟩⟩⟩
        · obtain ⟨ys, q, r'⟩ := h3 L' H' st' le' hR' hw
          have hi' : i < s.1.length := by simpa using hi
          rw [h2.length] at hi'
          have hl : ys.length = xs.length := by rw [← r'.length, h2.length]
          exact ⟨hi', ys, ys[xs.length - 1 - i]'(by omega), q, by simp⟩
        · show xs.length ≤ s.1.reverse.length
          rw [List.length_reverse, h2.length]; exact Nat.le_refl _
        · obtain ⟨ys, q, r'⟩ := h3 L' H' st' le' hR' hw
          obtain ⟨hi, e'⟩ := rev_get e
          obtain ⟨z, e2, e3⟩ := r'.get e'
          obtain ⟨y1, y2⟩ := y
          subst y1
          have := y2 ys q
          rw [h2.length] at e2
          rw [this] at e2; cases e2
          exact ⟨L', .rfl', hR', e3⟩
theorem revr_items (lo : Int) (n : Nat) : (rangeL lo n).reverse = rangeD (lo + (n : Int) - 1) n := by
  apply List.ext_getElem?
  intro i
  unfold rangeL rangeD
  by_cases hi : i < n
  · rw [List.getElem?_reverse (by simpa using hi), List.getElem?_map, List.getElem?_map, List.getElem?_range hi]
    simp only [List.length_map, List.length_range]
    rw [List.getElem?_range (by omega)]
    simp only [Option.map_some, Option.some.injEq, PV.int.injEq]
    omega
  · rw [List.getElem?_eq_none (by simp; omega), List.getElem?_eq_none (by simp; omega)]
theorem pir_revr1 {p p2 pos2 : Pos} (hg : L2.Gl C "reversed") (hm : C.mg "reversed" = none) (hg2 : L2.Gl C "range") (hm2 : C.mg "range" = none) (hs : noStar e = true) (he : PEr X J C e (evE G ce)) :
    PIr X J C tg (.Call (.Name "reversed" p) [.Call (.Name "range" p2) [e] [] pos2] [] pos) (evI G (.revr [ce])) := fun W tk =>
  PI.imp (pi_revR hg hm (prg_1 hg2 hm2 (he W tk) (star_of hs _ _)) (star_of rfl _ _)) fun σ H R h => by
    obtain ⟨L, fr, st, hR, hF, hp⟩ := h
    simp only [evI, evEs] at hp
    refine ⟨L, fr, st, hR, hF, ?_⟩
    revert hp
    cases q1 : evE G ce fr st with
    | stuck => exact fun hp => hp
    | exc _ _ _ _ => exact fun hp => hp
    | ok v st1 =>
      intro hp L1 H1 x le hR1 r
      simp only [Res.bind] at hp
      cases q : rangeOf [v] with
      | none => rw [q] at hp; exact hp.elim
      | some items =>
        rw [q] at hp
        obtain ⟨j, rfl, hz, rfl⟩ := range1 q
        cases r
        refine ⟨j, rfl, by decide, by decide, (smallI_of hz).1, (smallI_of hz).2, hp L1 H1 _ le hR1 ?_⟩
        show StrOk X L1 _ (rangeL 0 j.toNat).reverse []
        rw [revr_items]
        have : (j - 0).toNat = j.toNat := by simp
        rw [this]
        exact str_rngD
theorem pir_revr2 {p p2 pos2 : Pos} (hg : L2.Gl C "reversed") (hm : C.mg "reversed" = none) (hg2 : L2.Gl C "range") (hm2 : C.mg "range" = none) (hs : noStar a = true) (hs2 : noStar b = true) (ha : PEr X J C a (evE G ca)) (hb : PEr X J C b (evE G cb)) :
    PIr X J C tg (.Call (.Name "reversed" p) [.Call (.Name "range" p2) [a, b] [] pos2] [] pos) (evI G (.revr [ca, cb])) := fun W tk =>
  PI.imp (pi_revR hg hm (prg_2 hg2 hm2 (ha W tk) (hb W tk) (star_of hs _ _) (star_of hs2 _ _) (plain_args (by simp [hs2]) _ _)) (star_of rfl _ _)) fun σ H R h => by
    obtain ⟨L, fr, st, hR, hF, hp⟩ := h
    simp only [evI, evEs] at hp
    refine ⟨L, fr, st, hR, hF, ?_⟩
    revert hp
    cases q1 : evE G ca fr st with
    | stuck => exact fun hp => hp
    | exc _ _ _ _ => exact fun hp => hp
    | ok v st1 =>
      intro hp L1 H1 x le hR1 r
      simp only [Res.bind] at hp
      refine ⟨L1, fr, st1, hR1, hF.mono le, ?_⟩
      revert hp
      cases q2 : evE G cb fr st1 with
      | stuck => exact fun hp => hp
      | exc _ _ _ _ => exact fun hp L' H' cls d le' => hp L' H' cls d (le.trans le')
      | ok u st2 =>
        intro hp L2 H2 y le2 hR2 r2
        simp only [Res.bind] at hp
        cases q : rangeOf [v, u] with
        | none => rw [q] at hp; exact hp.elim
        | some items =>
          rw [q] at hp
          obtain ⟨i, j, rfl, rfl, hz, hz2, rfl⟩ := range2 q
          cases r; cases r2
          refine ⟨i, j, rfl, rfl, (smallI_of hz).1, (smallI_of hz).2, (smallI_of hz2).1, (smallI_of hz2).2, hp L2 H2 _ (le.trans le2) hR2 ?_⟩
          show StrOk X L2 _ (rangeL i (j - i).toNat).reverse []
          rw [revr_items]
          exact str_rngD
/-! ### enumerate, zip -/
theorem enumL_get : ∀ {xs : List PV} {n i : Nat} {v : PV}, (enumL n xs)[i]? = some v → ∃ w, xs[i]? = some w ∧ v = .tup [.int ((n + i : Nat) : Int), w]
  | [], n, i, v, h => by simp [enumL] at h
  | x :: xs, n, 0, v, h => by simp [enumL] at h; exact ⟨x, rfl, by simpa using h.symm⟩
  | x :: xs, n, i + 1, v, h => by
    simp only [enumL, List.getElem?_cons_succ] at h
    obtain ⟨w, e1, e2⟩ := enumL_get h
    refine ⟨w, by simpa using e1, ?_⟩
    rw [e2]
    have : n + 1 + i = n + (i + 1) := by omega
    rw [this]
theorem enumL_len : ∀ {xs : List PV} {n : Nat}, (enumL n xs).length = xs.length
  | [], _ => rfl
  | x :: xs, n => by simp [enumL, enumL_len]
theorem pir_enm {p : Pos} {elts : List PySem.Expr} {kk : Nat} (hK : C.K = X.K) (hg : L2.Gl C "enumerate") (hm : C.mg "enumerate" = none) (hs : noStar e = true) (he : PEr X J C e (evE G ce)) :
    PIr X J C (.Tuple elts kk tpos) (.Call (.Name "enumerate" p) [e] [] pos) (evI G (.enm ce)) := fun W tk =>
  PI.imp (pi_enumA hg hm ((par_cons hs he par_nil) W tk) (star_of hs _ _)) fun σ H R h => by
    obtain ⟨L, fr, st, hR, hF, hp⟩ := h
    simp only [evI] at hp
    refine ⟨L, fr, st, hR, hF, ?_⟩
    revert hp
    simp only [evEs]
    cases q1 : evE G ce fr st with
    | stuck => exact fun hp => hp
    | exc _ _ _ _ => exact fun hp => hp
    | ok v st1 =>
      intro hp L1 H1 xs0 le hR1 r0
      simp only [Res.bind] at hp
      obtain ⟨v', x, e0, rfl, r⟩ := one_argP r0 rfl
      cases e0
      cases e1 : stmOf st1 v with
      | none => rw [e1] at hp; exact hp.elim
      | some s =>
        rw [e1] at hp
        have hp1 := fun b => hp L1 H1 b le hR1
        rw [hK]
        have pair : ∀ (i : Nat) (L' : Lg) (H' : Hp) (st' : Store) (w : PV) (z : V) (T : Addr), Rel X L' H' st' → RV X L' w z → H' T = none →
            ∃ L'', L'.le L'' ∧ Rel X L'' (upd H' T (.tup [.int (i : Nat), z])) st' ∧ RV X L'' (.tup [.int ((0 + i : Nat) : Int), w]) (.ref T) := by
          intro i L' H' st' w z T hR' rz hT
          obtain ⟨le', hR''⟩ := hR'.newF (o := .tup [.int (i : Nat), z]) hT
          refine ⟨_, le', hR'', .tup (by show upd L'.F T _ T = _; rw [upd_same]) (.cons ?_ (.cons (rz.mono le') .nil))⟩
          have : ((0 + i : Nat) : Int) = (i : Int) := by omega
          rw [this]
          exact .int _
        obtain ⟨p, rfl, h | h⟩ := src_of hR1 r e1
        · obtain ⟨_, ⟨xs, h1, h2⟩, h3⟩ := h
          refine ⟨p, rfl, .inr ⟨xs, h1, hp1 _ ⟨fun i hi L' H' st' le' hR' hw => ?_, fun L' H' st' le' hR' hw => ?_, fun i v e L' H' st' x H'' le' hR' hw y => ?_⟩⟩⟩
          · obtain ⟨ys, q, r'⟩ := h3 L' H' st' le' hR' hw
            rw [enumL_len, r'.length] at hi
            exact ⟨ys, ys[i], q, by simp [hi]⟩
          · obtain ⟨ys, q, r'⟩ := h3 L' H' st' le' hR' hw
            exact ⟨ys, q, by rw [enumL_len, r'.length]⟩
          · obtain ⟨ys, q, r'⟩ := h3 L' H' st' le' hR' hw
            obtain ⟨w, e2, rfl⟩ := enumL_get e
            obtain ⟨z, e3, rz⟩ := r'.get e2
            obtain ⟨T, x', rfl, hT, rfl, y4⟩ := y
            have := y4 ys q
            rw [e3] at this; cases this
            exact pair i L' H' st' w z T hR' rz hT
        · obtain ⟨_, ⟨xs, h1, h2⟩, h3⟩ := h
          refine ⟨p, rfl, .inl ⟨xs, h1, hp1 _ ⟨fun i hi L' H' st' le' hR' hw => ?_, fun L' H' st' le' hR' hw => ?_, fun i v e L' H' st' x H'' le' hR' hw y => ?_⟩⟩⟩
          · obtain ⟨ys, q, r'⟩ := h3 L' H' st' le' hR' hw
            rw [enumL_len, r'.length] at hi
            exact ⟨ys, ys[i], q, by simp [hi]⟩
          · obtain ⟨ys, q, r'⟩ := h3 L' H' st' le' hR' hw
            exact ⟨ys, q, by rw [enumL_len, r'.length]; exact Nat.le_refl _⟩
          · obtain ⟨ys, q, r'⟩ := h3 L' H' st' le' hR' hw
            obtain ⟨w, e2, rfl⟩ := enumL_get e
            obtain ⟨z, e3, rz⟩ := r'.get e2
            obtain ⟨T, x', rfl, hT, rfl, y4⟩ := y
            have := y4 ys q
            rw [e3] at this; cases this
            exact pair i L' H' st' w z T hR' rz hT
theorem zipL_len : ∀ {xs ys : List PV}, (zipL xs ys).length = min xs.length ys.length
  | [], ys => by simp [zipL]
  | x :: xs, [] => by simp [zipL]
  | x :: xs, y :: ys => by
    have h := zipL_len (xs := xs) (ys := ys)
    simp only [zipL, List.length_cons]
    omega
theorem zipL_get : ∀ {xs ys : List PV} {i : Nat} {v : PV}, (zipL xs ys)[i]? = some v → ∃ a b, xs[i]? = some a ∧ ys[i]? = some b ∧ v = .tup [a, b]
  | [], _, _, _, h => by simp [zipL] at h
  | x :: xs, [], _, _, h => by simp [zipL] at h
  | x :: xs, y :: ys, 0, v, h => by simp [zipL] at h; exact ⟨x, y, rfl, rfl, h.symm⟩
  | x :: xs, y :: ys, i + 1, v, h => by
    simp only [zipL, List.getElem?_cons_succ] at h
    obtain ⟨a, b, e1, e2, e3⟩ := zipL_get h
    exact ⟨a, b, by simpa using e1, by simpa using e2, e3⟩
theorem watch_app {st : Store} : ∀ {w1 w2 : List (Nat × List PV)}, watch st (w1 ++ w2) = true → watch st w1 = true ∧ watch st w2 = true
  | [], w2, h => ⟨rfl, h⟩
  | (a, xs) :: w1, w2, h => by
    simp only [List.cons_append, watch, Bool.and_eq_true] at h ⊢
    obtain ⟨h1, h2⟩ := watch_app h.2
    exact ⟨⟨h.1, h1⟩, h2⟩
theorem pir_zip {p : Pos} {elts : List PySem.Expr} {kk : Nat} (hK : C.K = X.K) (hg : L2.Gl C "zip") (hm : C.mg "zip" = none) (hs : noStar a = true) (hs2 : noStar b = true) (ha : PEr X J C a (evE G ca)) (hb : PEr X J C b (evE G cb)) :
    PIr X J C (.Tuple elts kk tpos) (.Call (.Name "zip" p) [a, b] [] pos) (evI G (.zip ca cb)) := fun W tk =>
  PI.imp (RZ.pi_zipA hg hm ((par_cons hs ha (par_cons hs2 hb par_nil)) W tk) (star_of hs _ _) (plain_args (by simp [hs2]) _ _)) fun σ H R h => by
    obtain ⟨L, fr, st, hR, hF, hp⟩ := h
    simp only [evI] at hp
    refine ⟨L, fr, st, hR, hF, ?_⟩
    revert hp
    simp only [evEs]
    cases q1 : evE G ca fr st with
    | stuck => exact fun hp => hp
    | exc _ _ _ _ => exact fun hp => hp
    | ok v st1 =>
      simp only [Res.bind]
      cases q2 : evE G cb fr st1 with
      | stuck => exact fun hp => hp
      | exc _ _ _ _ => exact fun hp => hp
      | ok u st2 =>
        intro hp L1 H1 xs0 le hR1 r0
        obtain ⟨v', u', x, y, e0, rfl, r1, r2⟩ := two_args r0 rfl
        cases e0
        simp only [Res.bind] at hp
        cases e3 : zipStm st2 v u with
        | none => rw [e3] at hp; exact hp.elim
        | some w =>
          rw [e3] at hp
          have hp1 := fun b => hp L1 H1 b le hR1
          unfold zipStm at e3
          by_cases ek : (isTup v == isTup u) = true
          · rw [if_pos ek] at e3
            cases e1 : stmOf st2 v with
            | none => rw [e1] at e3; cases e3
            | some s => cases e2 : stmOf st2 u with
              | none => rw [e1, e2] at e3; cases e3
              | some t =>
                rw [e1, e2] at e3
                cases e3
                rw [hK]
                have ek' : isTup v = isTup u := by simpa using ek
                have pair : ∀ (L' : Lg) (H' : Hp) (st' : Store) (w1 w2 : PV) (z1 z2 : V) (T : Addr), Rel X L' H' st' → RV X L' w1 z1 → RV X L' w2 z2 → H' T = none →
                    ∃ L'', L'.le L'' ∧ Rel X L'' (upd H' T (.tup [z1, z2])) st' ∧ RV X L'' (.tup [w1, w2]) (.ref T) := by
                  intro L' H' st' w1 w2 z1 z2 T hR' rz1 rz2 hT
                  obtain ⟨le', hR''⟩ := hR'.newF (o := .tup [z1, z2]) hT
                  exact ⟨_, le', hR'', .tup (by show upd L'.F T _ T = _; rw [upd_same]) (.cons (rz1.mono le') (.cons (rz2.mono le') .nil))⟩
                obtain ⟨p1, rfl, h | h⟩ := src_of hR1 r1 e1
                · obtain ⟨k1, ⟨xs, h1, h2⟩, h3⟩ := h
                  obtain ⟨p2, rfl, g | g⟩ := src_of hR1 r2 e2
                  · obtain ⟨k2, ⟨ys, g1, g2⟩, g3⟩ := g
                    refine ⟨p1, p2, xs, ys, rfl, .inr ⟨h1, g1, hp1 _ ⟨fun i hi L' H' st' le' hR' hw => ?_, fun L' H' st' le' hR' hw => ?_, fun i v e L' H' st' x H'' le' hR' hw y => ?_⟩⟩⟩
                    · obtain ⟨xs', a1, a2⟩ := h3 L' H' st' le' hR' (watch_app hw).1
                      obtain ⟨ys', b1, b2⟩ := g3 L' H' st' le' hR' (watch_app hw).2
                      rw [zipL_len, a2.length, b2.length] at hi
                      exact ⟨xs', ys', xs'[i]'(by omega), ys'[i]'(by omega), a1, b1, by simp, by simp⟩
                    · obtain ⟨xs', a1, a2⟩ := h3 L' H' st' le' hR' (watch_app hw).1
                      obtain ⟨ys', b1, b2⟩ := g3 L' H' st' le' hR' (watch_app hw).2
                      exact ⟨xs', ys', a1, b1, by rw [zipL_len, a2.length, b2.length]; omega⟩
                    · obtain ⟨xs', a1, a2⟩ := h3 L' H' st' le' hR' (watch_app hw).1
                      obtain ⟨ys', b1, b2⟩ := g3 L' H' st' le' hR' (watch_app hw).2
                      obtain ⟨c1, c2, c3, c4, rfl⟩ := zipL_get e
                      obtain ⟨z1, d1, rz1⟩ := a2.get c3
                      obtain ⟨z2, d2, rz2⟩ := b2.get c4
                      obtain ⟨T, y1, y2, rfl, hT, rfl, y4, y5⟩ := y
                      have t1 := y4 xs' a1
                      have t2 := y5 ys' b1
                      rw [d1] at t1; cases t1
                      rw [d2] at t2; cases t2
                      exact pair L' H' st' c1 c2 z1 z2 T hR' rz1 rz2 hT
                  · rw [k1, g.1] at ek'; cases ek'
                · obtain ⟨k1, ⟨xs, h1, h2⟩, h3⟩ := h
                  obtain ⟨p2, rfl, g | g⟩ := src_of hR1 r2 e2
                  · rw [k1, g.1] at ek'; cases ek'
                  · obtain ⟨k2, ⟨ys, g1, g2⟩, g3⟩ := g
                    refine ⟨p1, p2, xs, ys, rfl, .inl ⟨h1, g1, hp1 _ ⟨fun i hi L' H' st' le' hR' hw => ?_, fun L' H' st' le' hR' hw => ?_, fun i v e L' H' st' x H'' le' hR' hw y => ?_⟩⟩⟩
                    · obtain ⟨xs', a1, a2⟩ := h3 L' H' st' le' hR' (watch_app hw).1
                      obtain ⟨ys', b1, b2⟩ := g3 L' H' st' le' hR' (watch_app hw).2
                      rw [zipL_len, a2.length, b2.length] at hi
                      exact ⟨xs', ys', xs'[i]'(by omega), ys'[i]'(by omega), a1, b1, by simp, by simp⟩
                    · obtain ⟨xs', a1, a2⟩ := h3 L' H' st' le' hR' (watch_app hw).1
                      obtain ⟨ys', b1, b2⟩ := g3 L' H' st' le' hR' (watch_app hw).2
                      exact ⟨xs', ys', a1, b1, by rw [zipL_len, a2.length, b2.length]; omega⟩
                    · obtain ⟨xs', a1, a2⟩ := h3 L' H' st' le' hR' (watch_app hw).1
                      obtain ⟨ys', b1, b2⟩ := g3 L' H' st' le' hR' (watch_app hw).2
                      obtain ⟨c1, c2, c3, c4, rfl⟩ := zipL_get e
                      obtain ⟨z1, d1, rz1⟩ := a2.get c3
                      obtain ⟨z2, d2, rz2⟩ := b2.get c4
                      obtain ⟨T, y1, y2, rfl, hT, rfl, y4, y5⟩ := y
                      have t1 := y4 xs' a1
                      have t2 := y5 ys' b1
                      rw [d1] at t1; cases t1
                      rw [d2] at t2; cases t2
                      exact pair L' H' st' c1 c2 z1 z2 T hR' rz1 rz2 hT
          · rw [if_neg ek] at e3; cases e3
/-! ### for -/
theorem forL_step {tgt : PV → Frame → Store → Option Frame} {body : Frame → Store → SRes} {wt : List (Nat × List PV)} {x : PV} {xs : List PV} {fr : Frame} {st : Store} {D : Ends} {W : WX} {L : Lg} (h : SR X J W D L (forL tgt body wt (x :: xs) fr st)) :
    watch st wt = true ∧ ∃ fr1, tgt x fr st = some fr1 ∧ SR X J W D L (match body fr1 st with
        | .nx fr2 st2 => forL tgt body wt xs fr2 st2
        | .ct fr2 st2 => forL tgt body wt xs fr2 st2
        | .bk fr2 st2 => .nx fr2 st2
        | r => r) := by
  simp only [forL] at h
  by_cases hw : watch st wt = true
  · rw [if_pos hw] at h
    cases e : tgt x fr st with
    | none => rw [e] at h; exact h.elim
    | some fr1 => rw [e] at h; exact ⟨hw, fr1, rfl, h⟩
  · rw [if_neg hw] at h; exact h.elim
theorem noSet_of (h : noComp it = true) (h2 : (match it with | .Set _ _ _ => false | _ => true) = true) (env : Env) (x : Value) : foldedSetIterable it env x = pure x := by
  cases it <;> first | rfl | cases h2
theorem psr_for {body : List Stmt} {cbody : List CS} {ct : CT} {ci : CI} (hps : PassesOwn (model C.prog C.w) C.A C.env C.xe) (hc : C.calm = true) (hi : PIr X J C tg it (evI G ci)) (hg : PGr X J C tg (fun v fr st => assignT ct v fr st)) (hb : PSsr X J C body (exSs G cbody))
    (hs : ∀ x, foldedSetIterable it C.env x = pure x) : PSr X J C (.For tg it body [] pos) (exS G (.for_ ct ci cbody)) := fun W tk =>
  PS.imp (ps_for hps hc (hi W tk) hg (hb W tk) hs) fun D σ H hq => by
    obtain ⟨L, fr, st, hR, hF, hp⟩ := hq
    simp only [exS] at hp
    refine ⟨L, fr, st, hR, hF, RP.imp (SR.toS (R := fun L' (s : Stm) (Jt : It) => StrOk X L' Jt s.1 s.2) hF hp) ?_⟩
    rintro Jt H1 ⟨L1, s, st1, le1, hR1, S, hp1⟩
    obtain ⟨items, wt⟩ := s
    refine ⟨fun k m σ' H' => m = items.length - k ∧ k ≤ items.length ∧ ∃ (L' : Lg) (fr' : Frame) (st' : Store), L1.le L' ∧ Rel X L' H' st' ∧ FRel X J L' fr' σ' ∧ SR X J W D L' (forL (fun v fr st => assignT ct v fr st) (exSs G cbody) wt (items.drop k) fr' st'),
      ⟨items.length, by simp, Nat.zero_le _, L1, fr, st1, .rfl', hR1, hF.mono le1, hp1⟩, ?_⟩
    rintro k m σ2 H2 ⟨rfl, hk, L2, fr2, st2, le2, hR2, hF2, hp2⟩
    by_cases hlt : k < items.length
    · have e : items.drop k = items[k] :: items.drop (k + 1) := List.drop_eq_getElem_cons hlt
      rw [e] at hp2
      obtain ⟨hw, fr3, e3, hp3⟩ := forL_step hp2
      refine .inr ⟨S.goes k hlt L2 H2 st2 le2.f hR2 hw, fun σ' H' => ∃ m, m < items.length - k ∧ m = items.length - (k + 1) ∧ k + 1 ≤ items.length ∧ ∃ (L' : Lg) (fr' : Frame) (st' : Store), L1.le L' ∧ Rel X L' H' st' ∧ FRel X J L' fr' σ' ∧ SR X J W D L' (forL (fun v fr st => assignT ct v fr st) (exSs G cbody) wt (items.drop (k + 1)) fr' st'),
        fun σ' H' h => by obtain ⟨m, h1, h2⟩ := h; exact ⟨m, h1, h2⟩, fun x H3 y => ?_⟩
      obtain ⟨L3, le3, hR3, rv⟩ := S.yields k items[k] (by simp) L2 H2 st2 x H3 le2.f hR2 hw y
      refine ⟨L3, fr2, st2, items[k], hR3, hF2.mono le3, rv, ?_⟩
      dsimp only
      rw [e3]
      intro L4 H4 σ4 le4 hR4 hF4
      refine ⟨L4, fr3, st2, hR4, hF4, ?_⟩
      have hp4 := SR.mono (le3.trans le4) hp3
      cases e4 : exSs G cbody fr3 st2 with
      | nx fr5 st5 =>
        rw [e4] at hp4
        exact fun L5 H5 σ5 le5 r5 f5 => ⟨items.length - (k + 1), by omega, rfl, hlt, L5, fr5, st5, ((le2.trans le3).trans le4).trans le5, r5, f5, SR.mono le5 hp4⟩
      | ct fr5 st5 =>
        rw [e4] at hp4
        exact fun L5 H5 σ5 le5 r5 f5 => ⟨items.length - (k + 1), by omega, rfl, hlt, L5, fr5, st5, ((le2.trans le3).trans le4).trans le5, r5, f5, SR.mono le5 hp4⟩
      | bk fr5 st5 => rw [e4] at hp4; exact hp4
      | rt v st5 => rw [e4] at hp4; exact hp4
      | exc c ks vs fr5 st5 => rw [e4] at hp4; exact hp4
      | stuck => rw [e4] at hp4; exact hp4.elim
    · have e : k = items.length := by omega
      subst e
      rw [List.drop_length] at hp2
      simp only [forL] at hp2
      by_cases hw : watch st2 wt = true
      · rw [if_pos hw] at hp2
        exact .inl ⟨S.stops L2 H2 st2 le2.f hR2 hw, hp2.here hR2 hF2⟩
      · rw [if_neg hw] at hp2; exact hp2.elim
end
end Ev

set_option Elab.async false
set_option linter.all false
set_option maxRecDepth 100000
set_option maxHeartbeats 2000000
/-! Comprehensions. -/
namespace Ev
open PySem PySem.Spec PyProof.Rows L2
section
variable {X : Fx} {J : Jd} {C : Cx} {G : Gl} {e : PySem.Expr} {ce : CE} {pos tpos : Pos} {tg it : PySem.Expr}
/-! ### the block's target -/
def setS (σ : L2.St) : List Nat → List V → L2.St
  | i :: is, x :: xs => setS (σ.set i (some x)) is xs
  | _, _ => σ
def slots : CT → List Nat
  | .nm i => [i]
  | .tp is => is
/-- a target, its stores told -/
abbrev TGx (X : Fx) (J : Jd) (ct : CT) : TG := fun x σ H Q =>
  ∃ (L : Lg) (fr : Frame) (st : Store) (v : PV), Rel X L H st ∧ FRel X J L fr σ ∧ RV X L v x ∧ (match assignT ct v fr st with
    | some fr1 => ∀ (zs : List V), FRel X J L fr1 (setS σ (slots ct) zs) → Q (setS σ (slots ct) zs) H
    | none => False)
def PGx (X : Fx) (J : Jd) (C : Cx) (tg : PySem.Expr) (ct : CT) : Prop := PG C tg (TGx X J ct)
theorem pgx_name {i : Nat} {x : Str} (hJ : J.fix ≠ some i) (hN : C.N.Nodup) (hi : C.N[i]? = some x) (hx : Loc C.env.scope x) (hf : C.fn x = true ∨ C.env.scope.names.lookup x = some .local) : PGx X J C (.Name x pos) (.nm i) :=
  PG.imp (pg_name hN hi hx hf) fun v σ H Q h => by
    obtain ⟨L, fr, st, w, hR, hF, r, hp⟩ := h
    exact hp [v] (hF.set r i hJ)
abbrev TGsx (X : Fx) (J : Jd) (is : List Nat) : TGs := fun xs σ H Q =>
  ∃ (L : Lg) (fr : Frame) (vs : List PV), FRel X J L fr σ ∧ RVs X L vs xs ∧ (match setAll fr is vs with
    | some fr1 => ∀ (zs : List V), FRel X J L fr1 (setS σ is zs) → Q (setS σ is zs) H
    | none => False)
theorem pgs_namesx (hN : C.N.Nodup) : ∀ {es : List PySem.Expr} {is : List Nat}, PNs J C es is → PGs C es (TGsx X J is)
  | [], [], _ => ⟨fun pins s σ H vs us Q I r h => pgs_nil.run pins s σ H vs us Q I r (by
      obtain ⟨L, fr, ws, hF, rs, hp⟩ := h
      cases rs with
      | nil => exact ⟨rfl, hp [] hF⟩
      | cons _ _ => exact hp.elim)⟩
  | e :: es, i :: is, ⟨⟨hJ, x, p, ee, hi, hx, hf⟩, h2⟩ => by
    subst ee
    have ih : PGs C es (TGsx X J is) := pgs_namesx hN h2
    refine ⟨fun pins s σ H vs us Q I r h => (pgs_cons (pg_name (pos := p) hN hi hx hf) ih).run pins s σ H vs us Q I r ?_⟩
    obtain ⟨L, fr, ws, hF, rs, hp⟩ := h
    cases rs with
    | nil => exact hp.elim
    | cons r1 rs =>
      refine ⟨_, _, rfl, L, _, _, hF.set r1 i hJ, rs, ?_⟩
      revert hp
      simp only [setAll]
      split
      · exact fun hp zs hz => hp (_ :: zs) hz
      · exact fun hp => hp
theorem pgx_tup {es : List PySem.Expr} {is : List Nat} {k : Nat} (hK : C.K = X.K) (hc : C.calm = true) (hN : C.N.Nodup) (h : PNs J C es is) : PGx X J C (.Tuple es k pos) (.tp is) := by
  obtain ⟨_, h2, h3⟩ := pgs_names (X := X) (J := J) hN h
  have h1 := pgs_namesx (X := X) (J := J) hN h
  refine PG.imp (PG.or (pg_tup hc h1 h2 h3) (pg_lst hc h1 h2 h3)) fun v σ H Q hq => ?_
  obtain ⟨L, fr, st, w, hR, hF, r, hp⟩ := hq
  unfold assignT at hp
  cases w <;> try exact hp.elim
  case tup ws =>
    obtain ⟨p, xs, rfl, hx, rx⟩ := r.sqT hR
    refine .inl ⟨p, xs, rfl, by rw [hK]; exact hx, ?_, L, fr, ws, hF, rx, hp⟩
    cases e : setAll fr is ws with
    | none => simp only [e] at hp
    | some fr1 => rw [← rx.length, ← setAll_len e, h.len]
  case obj i =>
    cases e1 : st[i]? with
    | none => simp only [e1] at hp
    | some cl => cases cl with
      | lst ws =>
        simp only [e1] at hp
        cases r with
        | obj q1 =>
          obtain ⟨xs, q2, q3⟩ := cell_lst hR q1 e1
          refine .inr ⟨_, xs, rfl, by rw [hK]; exact .inl (.inl q2), ?_, L, fr, ws, hF, q3, hp⟩
          cases e : setAll fr is ws with
          | none => simp only [e] at hp
          | some fr1 => rw [← q3.length, ← setAll_len e, h.len]
      | ins _ _ _ => simp only [e1] at hp
      | dead => simp only [e1] at hp
theorem wipe_set {σ : L2.St} {i : Nat} {x : Option V} : ∀ {vs : List Nat}, i ∈ vs → wipe (σ.set i x) vs = wipe σ vs
  | [], h => by cases h
  | v :: vs, h => by
    show (wipe (σ.set i x) vs).set v none = (wipe σ vs).set v none
    by_cases hv : i ∈ vs
    · rw [wipe_set hv]
    · have e : i = v := by
        rcases List.mem_cons.mp h with z | z
        · exact z
        · exact absurd z hv
      subst e
      apply List.ext_getElem?
      intro j
      rw [List.getElem?_set, List.getElem?_set]
      simp only [wipe_length, List.length_set]
      by_cases hj : i = j
      · subst hj; rw [if_pos rfl, if_pos rfl]
      · rw [if_neg hj, if_neg hj]
        have key : ∀ {ws : List Nat}, (wipe (σ.set i x) ws)[j]? = (wipe σ ws)[j]? := by
          intro ws
          induction ws with
          | nil => show (σ.set i x)[j]? = σ[j]?; rw [List.getElem?_set, if_neg hj]
          | cons w ws ih =>
            show ((wipe (σ.set i x) ws).set w none)[j]? = ((wipe σ ws).set w none)[j]?
            rw [List.getElem?_set, List.getElem?_set, ih]
            simp only [wipe_length, List.length_set]
        exact key
theorem wipe_setS {σ : L2.St} {vs : List Nat} : ∀ {is : List Nat} {zs : List V}, (∀ i ∈ is, i ∈ vs) → wipe (setS σ is zs) vs = wipe σ vs
  | [], _, _ => rfl
  | i :: is, [], _ => rfl
  | i :: is, z :: zs, h => by
    show wipe (setS (σ.set i (some z)) is zs) vs = _
    have ih : ∀ {σ : L2.St}, wipe (setS σ is zs) vs = wipe σ vs := wipe_setS fun j hj => h j (List.mem_cons_of_mem _ hj)
    rw [ih, wipe_set (h i List.mem_cons_self)]
theorem wipe_idem {σ : L2.St} {vs : List Nat} : wipe (wipe σ vs) vs = wipe σ vs := by
  have key : ∀ {ws us : List Nat}, (∀ w ∈ ws, w ∈ us) → wipe (wipe σ ws) us = wipe σ us := by
    intro ws
    induction ws with
    | nil => intro us _; rfl
    | cons w ws ih =>
      intro us h
      show wipe ((wipe σ ws).set w none) us = _
      rw [wipe_set (h w List.mem_cons_self), ih fun v hv => h v (List.mem_cons_of_mem _ hv)]
  exact key fun w h => h
theorem FRel.wipe {L : Lg} {fr : Frame} {σ : L2.St} (r : FRel X J L fr σ) : ∀ vs : List Nat, (∀ i ∈ vs, J.fix ≠ some i) → FRel X J L (wipeF fr vs) (wipe σ vs)
  | [], _ => r
  | v :: vs, h => (FRel.wipe r vs fun i hi => h i (List.mem_cons_of_mem _ hi)).unset v none (h v List.mem_cons_self)
/-! ### tests -/
abbrev TTs (X : Fx) (J : Jd) (W : WX) (f : Frame → Store → Res Bool) : TT := fun σ H Q =>
  ∃ (L : Lg) (fr : Frame) (st : Store), Rel X L H st ∧ FRel X J L fr σ ∧ RP X L (fun _ (a b : Bool) => a = b) W σ (f fr st) Q
def PTsr (X : Fx) (J : Jd) (C : Cx) (ifs : List PySem.Expr) (f : Frame → Store → Res Bool) : Prop := ∀ W, Takes C W → PTs C ifs (TTs X J W f)
theorem ptsr_nil : PTsr X J C [] (evT G []) := fun W tk => ⟨fun pins s σ H Q I h => pts_nil.run pins s σ H Q I (by
  obtain ⟨L, fr, st, hR, hF, hp⟩ := h
  exact RP.here (R := fun _ (a b : Bool) => a = b) hp hR rfl)⟩
theorem ptsr_one (h : PTr X J C e (evE G ce)) : PTsr X J C [e] (evT G [ce]) := fun W tk => ⟨fun pins s σ H Q I hq => (pts_one (h W tk)).run pins s σ H Q I (by
  obtain ⟨L, fr, st, hR, hF, hp⟩ := hq
  refine ⟨L, fr, st, hR, hF, ?_⟩
  simp only [evT] at hp
  revert hp
  cases evE G ce fr st with
  | stuck => exact fun hp => hp
  | exc _ _ _ _ => exact fun hp => hp
  | ok v st1 =>
    intro hp
    simp only [Res.bind] at hp ⊢
    cases e : truth st1 v with
    | none => rw [e] at hp; exact hp.elim
    | some k =>
      rw [e] at hp
      cases k <;> exact hp)⟩
/-! ### the turns -/
/-- no exception is wished for -/
def W0 : WX := fun _ _ _ _ => False
theorem rp_noexc {α β : Type} {L : Lg} {R : Lg → α → β → Prop} {W : WX} {σ : L2.St} {r : Res α} {Q : β → Hp → Prop} (h : ∀ c ks vs st, r ≠ .exc c ks vs st) (p : RP X L R W σ r Q) : RP X L R W0 σ r Q := by
  cases r with
  | ok a st => exact p
  | exc c ks vs st => exact (h c ks vs st rfl).elim
  | stuck => exact p
theorem compL_step {tgt : PV → Frame → Store → Option Frame} {test : Frame → Store → Res Bool} {elt : Frame → Store → Res (List PV)} {wt : List (Nat × List PV)} {fr : Frame} {x : PV} {xs ys : List PV} {st st9 : Store}
    (h : compL tgt test elt wt fr (x :: xs) st = .ok ys st9) :
    watch st wt = true ∧ ∃ fr1, tgt x fr st = some fr1 ∧ ∃ b st1, test fr1 st = .ok b st1 ∧ ((b = true ∧ ∃ zs st2 rest, elt fr1 st1 = .ok zs st2 ∧ compL tgt test elt wt fr xs st2 = .ok rest st9 ∧ ys = zs ++ rest) ∨ (b = false ∧ compL tgt test elt wt fr xs st1 = .ok ys st9)) := by
  simp only [compL] at h
  by_cases hw : watch st wt = true
  · rw [if_pos hw] at h
    cases e1 : tgt x fr st with
    | none => rw [e1] at h; cases h
    | some fr1 =>
      rw [e1] at h
      simp only at h
      cases e2 : test fr1 st with
      | stuck => rw [e2] at h; cases h
      | exc _ _ _ _ => rw [e2] at h; cases h
      | ok b st1 =>
        rw [e2] at h
        simp only [Res.bind] at h
        refine ⟨hw, fr1, rfl, b, st1, e2, ?_⟩
        cases b with
        | false => exact .inr ⟨rfl, by simpa using h⟩
        | true =>
          simp only [if_true] at h
          cases e3 : elt fr1 st1 with
          | stuck => rw [e3] at h; cases h
          | exc _ _ _ _ => rw [e3] at h; cases h
          | ok zs st2 =>
            rw [e3] at h
            simp only at h
            cases e4 : compL tgt test elt wt fr xs st2 with
            | stuck => rw [e4] at h; cases h
            | exc _ _ _ _ => rw [e4] at h; cases h
            | ok rest st3 =>
              rw [e4] at h
              cases h
              exact .inl ⟨rfl, zs, st2, rest, rfl, e4, rfl⟩
  · rw [if_neg hw] at h; cases h
theorem compL_nil {tgt : PV → Frame → Store → Option Frame} {test : Frame → Store → Res Bool} {elt : Frame → Store → Res (List PV)} {wt : List (Nat × List PV)} {fr : Frame} {ys : List PV} {st st9 : Store}
    (h : compL tgt test elt wt fr [] st = .ok ys st9) : watch st wt = true ∧ ys = [] ∧ st9 = st := by
  simp only [compL] at h
  by_cases hw : watch st wt = true
  · rw [if_pos hw] at h; cases h; exact ⟨hw, rfl, rfl⟩
  · rw [if_neg hw] at h; cases h
abbrev eltF (G : Gl) (ce : CE) : Frame → Store → Res (List PV) := fun fr st => (evE G ce fr st).bind fun v st1 => .ok [v] st1
abbrev tgtF (ct : CT) : PV → Frame → Store → Option Frame := fun v fr st => assignT ct v fr st
/-- what a comprehension leaves: the list at D, no cell as yet -/
def Left (X : Fx) (L : Lg) (ys : List PV) (st : Store) (Q : V → Hp → Prop) : Prop :=
  ∀ (L' : Lg) (H' : Hp) (D : Addr) (zs : List V), L.le L' → Rel X L' H' st → RVs X L' ys zs → zs.length ≤ sizeLine → H' D = some (.lst zs) → L'.F D = none → D ∉ L'.m → L'.P D = none → Q (.ref D) H'
theorem tlc_core {own : List Nat} {ct : CT} {ifs : List CE} {σ : L2.St} {L1 : Lg} {fr : Frame} {Jt : It} {H1 : Hp} {items : List PV} {wt : List (Nat × List PV)} {st1 st9 : Store} {ys : List PV} {Q : V → Hp → Prop}
    (hJ : ∀ i ∈ own, J.fix ≠ some i) (hsl : ∀ i ∈ slots ct, i ∈ own) (S : StrOk X L1 Jt items wt) (hR1 : Rel X L1 H1 st1) (hF1 : FRel X J L1 fr σ)
    (h : compL (tgtF ct) (evT G ifs) (eltF G ce) wt (wipeF fr own) items st1 = .ok ys st9) (hz : ys.length ≤ sizeLine) (q : Left X L1 ys st9 Q) :
    ∀ D, H1 D = none → ∃ W : Nat → Nat → Hp → Prop, (∃ m, W 0 m (upd H1 D (.lst []))) ∧ ∀ i m H, W i m H →
      (Jt.stop i H ∧ Q (.ref D) H) ∨ (Jt.go i H ∧ ∃ Nx : Hp → Prop, (∀ H', Nx H' → ∃ m', m' < m ∧ W (i + 1) m' H') ∧ ∀ x H', Jt.yld i H x H' → TGx X J ct x (wipe σ own) H' fun σ2 H2 => wipe σ2 own = wipe σ own ∧ TTs X J W0 (evT G ifs) σ2 H2 fun b H3 =>
        if b = true then TEr X J W0 (evE G ce) σ2 H3 fun y H4 => ∃ acc, H4 D = some (.lst acc) ∧ acc.length < sizeLine ∧ Nx (upd H4 D (.lst (acc ++ [y]))) else Nx H3) := by
  intro D hD
  have hFD : L1.F D = none := by
    cases e : L1.F D with
    | none => rfl
    | some u => rw [hR1.sub D u e] at hD; cases hD
  have hPD : L1.P D = none := by
    cases e : L1.P D with
    | none => rfl
    | some u => rw [(hR1.pr D u e).1] at hD; cases hD
  have hmD : D ∉ L1.m := fun hm => by
    obtain ⟨u, e⟩ := hR1.mem_some hm
    rw [e] at hD; cases hD
  refine ⟨fun k m H => m = items.length - k ∧ k ≤ items.length ∧ ∃ (L' : Lg) (st' : Store) (acc : List PV) (accV : List V) (rest : List PV), L1.le L' ∧ Rel X L' H st' ∧ RVs X L' acc accV ∧ H D = some (.lst accV) ∧ L'.F D = none ∧ D ∉ L'.m ∧ ys = acc ++ rest ∧
      compL (tgtF ct) (evT G ifs) (eltF G ce) wt (wipeF fr own) (items.drop k) st' = .ok rest st9,
    ⟨items.length, by simp, Nat.zero_le _, L1, st1, [], [], ys, .rfl', hR1.newH hD, .nil, upd_same, hFD, hmD, rfl, h⟩, ?_⟩
  rintro k m H ⟨rfl, hk, L2, st2, acc, accV, rest, le2, hR2, ra, hDa, hFD2, hmD2, rfl, hc⟩
  have hPD2 : L2.P D = none := by rw [le2.P]; exact hPD
  by_cases hlt : k < items.length
  · have e : items.drop k = items[k] :: items.drop (k + 1) := List.drop_eq_getElem_cons hlt
    rw [e] at hc
    obtain ⟨hw, fr1, e1, b, st3, e2, hb⟩ := compL_step hc
    refine .inr ⟨S.goes k hlt L2 H st2 le2.f hR2 hw, fun H' => ∃ m', m' < items.length - k ∧ m' = items.length - (k + 1) ∧ k + 1 ≤ items.length ∧ ∃ (L' : Lg) (st' : Store) (acc' : List PV) (accV' : List V) (rest' : List PV), L1.le L' ∧ Rel X L' H' st' ∧ RVs X L' acc' accV' ∧ H' D = some (.lst accV') ∧ L'.F D = none ∧ D ∉ L'.m ∧ acc ++ rest = acc' ++ rest' ∧
      compL (tgtF ct) (evT G ifs) (eltF G ce) wt (wipeF fr own) (items.drop (k + 1)) st' = .ok rest' st9, fun H' h' => by obtain ⟨m', h1, h2⟩ := h'; exact ⟨m', h1, h2⟩, fun x H3 y => ?_⟩
    -- D is held from here on
    have hRh := hR2.hold hDa hFD2 hmD2
    obtain ⟨L3, le3, hR3, rv⟩ := S.yields k items[k] (by simp) { L2 with P := upd L2.P D (.lst accV) } H st2 x H3 (le2.f.trans .hold) hRh hw y
    have hF3 : FRel X J L3 (wipeF fr own) (wipe σ own) := by
      have h0 := (hF1.mono le2).wipe own hJ
      refine ⟨?_, h0.len, fun i v e => ?_⟩
      · exact J.mono le3.f (J.mono .hold h0.j)
      · obtain ⟨z, a, b⟩ := h0.val i v e
        exact ⟨z, a, (b.monoF .hold).mono le3⟩
    refine ⟨L3, wipeF fr own, st2, items[k], hR3, hF3, rv, ?_⟩
    have e1' : assignT ct items[k] (wipeF fr own) st2 = some fr1 := e1
    rw [e1']
    intro zs hF4
    refine ⟨(wipe_setS hsl).trans wipe_idem, L3, fr1, st2, hR3, hF4, ?_⟩
    rw [e2]
    intro L4 H4 b' le4 hR4 eb
    subst eb
    have P4 : L4.P = upd L2.P D (.lst accV) := le4.P.trans le3.P
    rcases hb with ⟨rfl, zs2, st5, rest2, e3, e4, rfl⟩ | ⟨rfl, e4⟩
    · rw [if_pos rfl]
      refine ⟨L4, fr1, st3, hR4, hF4.mono le4, ?_⟩
      cases e5 : evE G ce fr1 st3 with
      | stuck =>
        have e3' : (evE G ce fr1 st3).bind (fun v st1 => .ok [v] st1) = Res.ok zs2 st5 := e3
        rw [e5] at e3'; cases e3'
      | exc _ _ _ _ =>
        have e3' : (evE G ce fr1 st3).bind (fun v st1 => .ok [v] st1) = Res.ok zs2 st5 := e3
        rw [e5] at e3'; cases e3'
      | ok v st6 =>
        have e3' : (evE G ce fr1 st3).bind (fun v st1 => .ok [v] st1) = Res.ok zs2 st5 := e3
        rw [e5] at e3'
        cases e3'
        intro L5 H5 z le5 hR5 rz
        have P5 : L5.P = upd L2.P D (.lst accV) := le5.P.trans P4
        obtain ⟨q1, q2, q3⟩ := hR5.pr D (.lst accV) (by rw [P5, upd_same])
        have hP : ∀ a o, L2.P a = some o → L5.P a = some o := fun a o e => by
          rw [P5, upd_ne (fun z => by rw [z, hPD2] at e; cases e)]; exact e
        have hR6 := hR5.drop hP
        have le6 : L1.le { L5 with P := L2.P } := ⟨fun a o e => le5.F a o (le4.F a o (le3.F a o (le2.F a o e))), fun i a e => le5.m i a (le4.m i a (le3.m i a (le2.m i a e))), le2.P⟩
        have ra6 : RVs X { L5 with P := L2.P } acc accV := ((((ra.monoF .hold).mono le3).mono le4).mono le5).anyP
        refine ⟨accV, q1, ?_, items.length - (k + 1), by omega, rfl, hlt, { L5 with P := L2.P }, _, acc ++ [v], accV ++ [z], rest2, le6, hR6.writeP q2 q3 hPD2, ra6.snoc rz.anyP, upd_same, q2, q3, by simp, e4⟩
        have hl := ra.length
        simp only [List.length_append, List.length_cons, List.length_nil] at hz
        omega
    · rw [if_neg Bool.false_ne_true]
      obtain ⟨q1, q2, q3⟩ := hR4.pr D (.lst accV) (by rw [P4, upd_same])
      have hP : ∀ a o, L2.P a = some o → L4.P a = some o := fun a o e => by
        rw [P4, upd_ne (fun z => by rw [z, hPD2] at e; cases e)]; exact e
      have hR6 := hR4.drop hP
      have le6 : L1.le { L4 with P := L2.P } := ⟨fun a o e => le4.F a o (le3.F a o (le2.F a o e)), fun i a e => le4.m i a (le3.m i a (le2.m i a e)), le2.P⟩
      have ra6 : RVs X { L4 with P := L2.P } acc accV := (((ra.monoF .hold).mono le3).mono le4).anyP
      exact ⟨items.length - (k + 1), by omega, rfl, hlt, { L4 with P := L2.P }, st3, acc, accV, rest, le6, hR6, ra6, q1, q2, q3, rfl, e4⟩
  · have e : k = items.length := by omega
    subst e
    rw [List.drop_length] at hc
    obtain ⟨hw, rfl, rfl⟩ := compL_nil hc
    refine .inl ⟨S.stops L2 H st9 le2.f hR2 hw, q L2 H D accV le2 hR2 (by simpa using ra) ?_ hDa hFD2 hmD2 hPD2⟩
    have hl := ra.length
    simp only [List.append_nil] at hz
    omega
/-! ### the whole -/
theorem left_of {L1 : Lg} {W : WX} {σ : L2.St} {ys : List PV} {st : Store} {Q : V → Hp → Prop} (h : RP X L1 (RV X) W σ (newL st ys) Q) : ys.length ≤ sizeLine ∧ Left X L1 ys st Q := by
  unfold newL at h
  by_cases hz : sizeOk ys.length = true
  · rw [if_pos hz] at h
    refine ⟨lineOk hz, fun L' H' D zs le hR r hz' hD hF hm hP => ?_⟩
    obtain ⟨le2, hR2, e⟩ := hR.addC (c := .lst ys) hF hm hP ⟨zs, hD, r⟩
    exact h _ _ _ (le.trans le2) hR2 (.obj e)
  · rw [if_neg hz] at h; exact h.elim
theorem comp_core {own : List Nat} {ct : CT} {ci : CI} {ifs : List CE} {W : WX} {σ : L2.St} {H : Hp} {Q : V → Hp → Prop} {scope : Scope}
    (hJ : ∀ i ∈ own, J.fix ≠ some i) (hsl : ∀ i ∈ slots ct, i ∈ own) (h : TEr X J W (evE G (.comp own ct ci ifs ce)) σ H Q) :
    tLc (fun σ H R => ∃ (L : Lg) (fr : Frame) (st : Store), Rel X L H st ∧ FRel X J L fr σ ∧ RP X L (fun L' (s : Stm) (Jt : It) => StrOk X L' Jt s.1 s.2) W σ (evI G ci fr st) R)
      (TGx X J ct) (TTs X J W0 (evT G ifs)) (TEr X J W0 (evE G ce)) own σ H Q := by
  obtain ⟨L, fr, st, hR, hF, hp⟩ := h
  simp only [evE] at hp
  refine ⟨L, fr, st, hR, hF, RP.imp (RP.bind (R' := fun L' (s : Stm) (Jt : It) => StrOk X L' Jt s.1 s.2) hp) ?_⟩
  rintro Jt H1 ⟨L1, s, st1, le1, hR1, S, hp1⟩
  cases e : compL (tgtF ct) (evT G ifs) (eltF G ce) s.2 (wipeF fr own) s.1 st1 with
  | stuck => rw [show compL (fun v fr st => assignT ct v fr st) (evT G ifs) (fun fr st => (evE G ce fr st).bind fun v st1 => .ok [v] st1) s.2 (wipeF fr own) s.1 st1 = .stuck from e] at hp1; exact hp1.elim
  | exc _ _ _ _ => rw [show compL (fun v fr st => assignT ct v fr st) (evT G ifs) (fun fr st => (evE G ce fr st).bind fun v st1 => .ok [v] st1) s.2 (wipeF fr own) s.1 st1 = _ from e] at hp1; exact hp1.elim
  | ok ys st9 =>
    rw [show compL (fun v fr st => assignT ct v fr st) (evT G ifs) (fun fr st => (evE G ce fr st).bind fun v st1 => .ok [v] st1) s.2 (wipeF fr own) s.1 st1 = .ok ys st9 from e] at hp1
    have hp1' : RP X L1 (RV X) W σ (newL st9 ys) Q := hp1
    obtain ⟨hz, q⟩ := left_of hp1'
    exact tlc_core hJ hsl S hR1 (hF.mono le1) e hz q
/-- a block over C -/
def InBlk (C : Cx) (scope : Scope) (P : Cx → Prop) : Prop := ∀ (s : Shared) (H : Hp) (D : Addr) (cl : List (Str × Addr)) (fp : List Addr), P (C.blk s H scope (compEnvC scope cl D C.env) fp)
theorem takes_blk {s : Shared} {H : Hp} {scope : Scope} {ce : Env} {fp : List Addr} : Takes (C.blk s H scope ce fp) W0 := fun _ _ ⟨_, _, _, _, _, _, _, _, _, _, _, _, _, _, _, _, w⟩ => w.elim
section
variable {elt : PySem.Expr} {scope : Scope} {own : List (Str × Nat)} {ct : CT} {ci : CI} {ifs : List PySem.Expr} {cifs : List CE}
theorem per_comp (hJ : ∀ i ∈ own.map (·.2), J.fix ≠ some i) (hc : C.calm = true) (hN : C.N.Nodup) (hi : PIr X J C tg it (evI G ci)) (ok : BlkOk C.N C.env.scope scope own) (hsl : ∀ i ∈ slots ct, i ∈ own.map (·.2))
    (hg : InBlk C scope fun B => PGx X J B tg ct) (ht : InBlk C scope fun B => PTsr X J B ifs (evT G cifs)) (he : InBlk C scope fun B => PEr X J B elt (evE G ce)) (hs : ∀ x, foldedSetIterable it C.env x = pure x) :
    PEr X J C (.ListComp elt [⟨tg, it, ifs, 0⟩] scope pos) (evE G (.comp (own.map (·.2)) ct ci cifs ce)) := fun W tk =>
  PE.imp (pe_lc hc hN (hi W tk) ok (fun s H D cl fp => hg s H D cl fp) (fun s H D cl fp => ht s H D cl fp W0 takes_blk) (fun s H D cl fp => he s H D cl fp W0 takes_blk) hs) fun σ H Q h => comp_core (scope := scope) hJ hsl h
theorem psr_setLc {i : Nat} {y : Str} {py spos : Pos} (hJi : J.fix ≠ some i) (hJ : ∀ i ∈ own.map (·.2), J.fix ≠ some i) (hc : C.calm = true) (hN : C.N.Nodup) (hy : C.N[i]? = some y) (hyl : C.env.scope.names.lookup y = some .local)
    (hsw : swapsWith (.ListComp elt [⟨tg, it, ifs, 0⟩] scope pos) (some (.Name y py)) spos.line C.env = pure true) (hi : PIr X J C tg it (evI G ci)) (ok : BlkOk C.N C.env.scope scope own) (hsl : ∀ i ∈ slots ct, i ∈ own.map (·.2))
    (hg : InBlk C scope fun B => PGx X J B tg ct) (ht : InBlk C scope fun B => PTsr X J B ifs (evT G cifs)) (he : InBlk C scope fun B => PEr X J B elt (evE G ce)) (hs : ∀ x, foldedSetIterable it C.env x = pure x) :
    PSr X J C (.Assign [.Name y py] (.ListComp elt [⟨tg, it, ifs, 0⟩] scope pos) spos) (exS G (.set i (.comp (own.map (·.2)) ct ci cifs ce))) := fun W tk =>
  PS.imp (ps_setLc hc hN hy hyl hsw (hi W tk) ok (fun s H D cl fp => hg s H D cl fp) (fun s H D cl fp => ht s H D cl fp W0 takes_blk) (fun s H D cl fp => he s H D cl fp W0 takes_blk) hs) fun D σ H hq => by
    obtain ⟨L, fr, st, hR, hF, hp⟩ := hq
    refine comp_core (W := W) (scope := scope) hJ hsl ⟨L, fr, st, hR, hF, RP.imp (SR.toS (R := RV X) hF hp) ?_⟩
    rintro x H1 ⟨L1, v, st1, le, hR1, r, hp1⟩
    exact hp1.here hR1 ((hF.mono le).set r i hJi)
end
end
end Ev

set_option Elab.async false
set_option linter.all false
set_option maxRecDepth 100000
set_option maxHeartbeats 2000000
/-! Built-in functions, list methods, isinstance. -/
namespace Ev
open PySem PySem.Spec PyProof.Rows L2
section
variable {X : Fx} {J : Jd} {C : Cx} {G : Gl} {e a o : PySem.Expr} {ce ca co : CE} {es : List PySem.Expr} {ces : List CE} {pos : Pos}
/-! ### sequences at an address -/
theorem seq_at {L : Lg} {H : Hp} {st : Store} (hR : Rel X L H st) {v : PV} {x : V} {vs : List PV} (r : RV X L v x) (e : seqOf st v = some vs) :
    ∃ p ys, x = .ref p ∧ RVs X L vs ys ∧ ((isTup v = true ∧ SqT X.K H p ys) ∨ (isTup v = false ∧ SqL X.K H p ys)) := by
  cases v <;> try cases e
  case tup =>
    obtain ⟨p, xs, rfl, hx, rx⟩ := r.sqT hR
    exact ⟨p, xs, rfl, rx, .inl ⟨rfl, hx⟩⟩
  case flst =>
    cases r with
    | flst h1 h2 => exact ⟨_, _, rfl, h2, .inr ⟨rfl, .inl (.inr ⟨_, hR.sub _ _ h1⟩)⟩⟩
    | kflst h1 h2 => exact ⟨_, _, rfl, h2, .inr ⟨rfl, .inr h1⟩⟩
  case obj i =>
    simp only [seqOf] at e
    cases e1 : st[i]? with
    | none => rw [e1] at e; cases e
    | some c => cases c with
      | lst ws =>
        rw [e1] at e; cases e
        cases r with
        | obj h1 =>
          obtain ⟨xs, h2, h3⟩ := cell_lst hR h1 e1
          exact ⟨_, xs, rfl, h3, .inr ⟨rfl, .inl (.inl h2)⟩⟩
      | ins _ _ _ => rw [e1] at e; cases e
      | dead => rw [e1] at e; cases e
theorem ints_of {L : Lg} : ∀ {vs : List PV} {ns : List Int} {ys : List V}, intsL vs = some ns → RVs X L vs ys → ys = ns.map V.int ∧ vs = ns.map PV.int
  | [], ns, ys, e, r => by cases e; cases r; exact ⟨rfl, rfl⟩
  | v :: vs, ns, ys, e, r => by
    cases r with
    | cons r1 r =>
      cases v <;> try (have e' : (none : Option (List Int)) = some ns := e; cases e')
      rename_i i
      simp only [intsL, omap] at e
      generalize e2 : omap _ vs = q at e
      cases q with
      | none => cases e
      | some ms =>
        cases e
        obtain ⟨h1, h2⟩ := ints_of (vs := vs) (ns := ms) e2 r
        subst h1 h2
        cases r1
        exact ⟨rfl, rfl⟩
theorem bools_of {L : Lg} : ∀ {vs : List PV} {ns : List Bool} {ys : List V}, boolsL vs = some ns → RVs X L vs ys → ys = ns.map V.bl
  | [], ns, ys, e, r => by cases e; cases r; rfl
  | v :: vs, ns, ys, e, r => by
    cases r with
    | cons r1 r =>
      cases v <;> try (have e' : (none : Option (List Bool)) = some ns := e; cases e')
      rename_i i
      simp only [boolsL, omap] at e
      generalize e2 : omap _ vs = q at e
      cases q with
      | none => cases e
      | some ms =>
        cases e
        have h1 := bools_of (vs := vs) (ns := ms) e2 r
        subst h1
        cases r1
        rfl
theorem foldl_max_le : ∀ (xs : List Int) (x : Int), x ≤ xs.foldl max x ∧ (∀ y ∈ xs, y ≤ xs.foldl max x) ∧ (xs.foldl max x = x ∨ xs.foldl max x ∈ xs)
  | [], x => ⟨Int.le_refl _, fun _ h => (List.not_mem_nil h).elim, .inl rfl⟩
  | y :: ys, x => by
    obtain ⟨h1, h2, h3⟩ := foldl_max_le ys (max x y)
    simp only [List.foldl_cons]
    refine ⟨by omega, fun z hz => ?_, ?_⟩
    · rcases List.mem_cons.mp hz with rfl | hz
      · omega
      · exact h2 z hz
    · rcases h3 with h3 | h3
      · by_cases hc : x ≤ y
        · exact .inr (by rw [h3]; rw [Int.max_eq_right hc]; exact List.mem_cons_self)
        · exact .inl (by rw [h3]; omega)
      · exact .inr (List.mem_cons_of_mem _ h3)
theorem foldl_min_le : ∀ (xs : List Int) (x : Int), xs.foldl min x ≤ x ∧ (∀ y ∈ xs, xs.foldl min x ≤ y) ∧ (xs.foldl min x = x ∨ xs.foldl min x ∈ xs)
  | [], x => ⟨Int.le_refl _, fun _ h => (List.not_mem_nil h).elim, .inl rfl⟩
  | y :: ys, x => by
    obtain ⟨h1, h2, h3⟩ := foldl_min_le ys (min x y)
    simp only [List.foldl_cons]
    refine ⟨by omega, fun z hz => ?_, ?_⟩
    · rcases List.mem_cons.mp hz with rfl | hz
      · omega
      · exact h2 z hz
    · rcases h3 with h3 | h3
      · by_cases hc : y ≤ x
        · exact .inr (by rw [h3]; rw [Int.min_eq_right hc]; exact List.mem_cons_self)
        · exact .inl (by rw [h3]; omega)
      · exact .inr (List.mem_cons_of_mem _ h3)
theorem lmax_eq {ns : List Int} {m k : Int} (h : lmax ns = some m) (h1 : k ∈ ns) (h2 : ∀ y, y ∈ ns → y ≤ k) : k = m := by
  cases ns with
  | nil => cases h1
  | cons x xs =>
    simp only [lmax, Option.some.injEq] at h
    obtain ⟨a, b, c⟩ := foldl_max_le xs x
    rw [h] at a b c
    have h3 : m ≤ k := h2 m (by rcases c with c | c; · rw [c]; exact List.mem_cons_self
                                · exact List.mem_cons_of_mem _ c)
    have h4 : k ≤ m := by rcases List.mem_cons.mp h1 with rfl | h1; · exact a
                          · exact b k h1
    omega
theorem lmin_eq {ns : List Int} {m k : Int} (h : lmin ns = some m) (h1 : k ∈ ns) (h2 : ∀ y, y ∈ ns → k ≤ y) : k = m := by
  cases ns with
  | nil => cases h1
  | cons x xs =>
    simp only [lmin, Option.some.injEq] at h
    obtain ⟨a, b, c⟩ := foldl_min_le xs x
    rw [h] at a b c
    have h3 : k ≤ m := h2 m (by rcases c with c | c; · rw [c]; exact List.mem_cons_self
                                · exact List.mem_cons_of_mem _ c)
    have h4 : m ≤ k := by rcases List.mem_cons.mp h1 with rfl | h1; · exact a
                          · exact b k h1
    omega
theorem lmax_pos {ns : List Int} {m : Int} (h : lmax ns = some m) : 0 < ns.length := by cases ns with | nil => cases h | cons => simp
theorem lmin_pos {ns : List Int} {m : Int} (h : lmin ns = some m) : 0 < ns.length := by cases ns with | nil => cases h | cons => simp
theorem ins1_perm (x : Int) : ∀ xs : List Int, (ins1 x xs).Perm (x :: xs)
  | [] => .refl _
  | y :: ys => by
    unfold ins1
    split
    · exact .refl _
    · exact ((ins1_perm x ys).cons y).trans (.swap x y ys)
theorem isort_perm : ∀ xs : List Int, (isort xs).Perm xs
  | [] => .refl _
  | x :: xs => by
    unfold isort
    exact (ins1_perm x _).trans ((isort_perm xs).cons x)
theorem ins1_sorted (x : Int) : ∀ {xs : List Int}, xs.Pairwise (· ≤ ·) → (ins1 x xs).Pairwise (· ≤ ·)
  | [], _ => by simp [ins1]
  | y :: ys, h => by
    unfold ins1
    obtain ⟨h1, h2⟩ := List.pairwise_cons.mp h
    split
    · rename_i hc
      refine List.pairwise_cons.mpr ⟨fun z hz => ?_, h⟩
      rcases List.mem_cons.mp hz with rfl | hz
      · exact hc
      · have := h1 z hz; omega
    · rename_i hc
      refine List.pairwise_cons.mpr ⟨fun z hz => ?_, ins1_sorted x h2⟩
      rcases List.mem_cons.mp ((ins1_perm x ys).mem_iff.mp hz) with rfl | hz
      · omega
      · exact h1 z hz
theorem isort_sorted : ∀ xs : List Int, (isort xs).Pairwise (· ≤ ·)
  | [] => .nil
  | x :: xs => ins1_sorted x (isort_sorted xs)
theorem sorted_unique : ∀ {xs ys : List Int}, xs.Perm ys → xs.Pairwise (· ≤ ·) → ys.Pairwise (· ≤ ·) → xs = ys
  | [], ys, h, _, _ => h.nil_eq
  | x :: xs, [], h, _, _ => by have := h.length_eq; simp at this
  | x :: xs, y :: ys, h, hx, hy => by
    obtain ⟨h1, h2⟩ := List.pairwise_cons.mp hx
    obtain ⟨h3, h4⟩ := List.pairwise_cons.mp hy
    have e : x = y := by
      have a : x ∈ y :: ys := h.mem_iff.mp List.mem_cons_self
      have b : y ∈ x :: xs := h.mem_iff.mpr List.mem_cons_self
      rcases List.mem_cons.mp a with a | a
      · exact a
      · rcases List.mem_cons.mp b with b | b
        · exact b.symm
        · have := h3 x a; have := h1 y b; omega
    subst e
    rw [sorted_unique (h.cons_inv) h2 h4]
theorem isort_eq {ns ns' : List Int} (h : ns'.Perm ns) (hs : ns'.Pairwise (· ≤ ·)) : ns' = isort ns := sorted_unique (h.trans (isort_perm ns).symm) hs (isort_sorted ns)
theorem rvs_ints {L : Lg} : ∀ {ns : List Int}, RVs X L (ns.map PV.int) (ns.map V.int)
  | [] => .nil
  | n :: ns => .cons (.int n) rvs_ints
/-! ### the built-in functions -/
/-- of one argument: what the rest is -/
theorem one_of {b : Blt} (h2 : ∀ v u st, blt2 b v u st = .stuck) {L : Lg} {vs : List PV} {xs : List V} {st : Store} {W : WX} {σ : L2.St} {Q : V → Hp → Prop} (r : RVs X L vs xs) (hp : RP X L (RV X) W σ (builtin b vs st) Q) :
    ∃ v x, vs = [v] ∧ xs = [x] ∧ RV X L v x ∧ RP X L (RV X) W σ (blt1 b v st) Q := by
  match vs, r, hp with
  | [v], .cons r1 .nil, hp => exact ⟨v, _, rfl, rfl, r1, hp⟩
  | [], .nil, hp => exact hp.elim
  | [v, u], _, hp => rw [show builtin b [v, u] st = .stuck from h2 v u st] at hp; exact hp.elim
  | [v, u, w], _, hp => rw [show builtin b [v, u, w] st = .stuck from by show blt3 b v u w st = .stuck; unfold blt3; rw [h2]] at hp; exact hp.elim
  | _ :: _ :: _ :: _ :: _, _, hp => exact hp.elim
theorem crr_len {W : WX} (hK : C.K = X.K) : CallR C (.builtin "len") (RCr X W (builtin .len)) := by
  intro pins s σ H xs us Q I rx ⟨L, vs, st, σ0, hR, rv, hp⟩
  obtain ⟨v, x, rfl, rfl, r1, hp⟩ := one_of (fun v u st => by cases v <;> rfl) rv hp
  have sq : ∀ vs, seqOf st v = some vs → RP X L (RV X) W σ0 (Res.ok (.int vs.length) st) Q → wpAny (model C.prog C.w) C.A (call (.builtin "len") us) (EP C pins σ Q) C.xe s := fun vs e hp => by
    obtain ⟨p, ys, rfl, r2, hs⟩ := seq_at hR r1 e
    refine call_len_seq pins s σ H _ us Q I rx ⟨p, ys, rfl, by rw [hK]; exact hs.elim (fun h => .inr h.2) fun h => .inl h.2, ?_⟩
    rw [← r2.length]
    exact hp.here hR (.int _)
  unfold blt1 at hp
  cases v with
  | str z =>
    cases r1
    simp only at hp
    by_cases hz : sizeOk z.length = true
    · rw [if_pos hz] at hp
      exact call_len_str pins s σ H _ us Q I rx ⟨z, rfl, lineOk hz, hp.here hR (.int _)⟩
    · rw [if_neg hz] at hp; exact hp.elim
  | tup ws => exact sq ws rfl hp
  | flst ws => exact sq ws rfl hp
  | obj i =>
    simp only at hp
    cases e : seqOf st (.obj i) with
    | none => rw [e] at hp; exact hp.elim
    | some ws => rw [e] at hp; exact sq ws e hp
  | non => exact hp.elim
  | bl _ => exact hp.elim
  | int _ => exact hp.elim
  | ins _ _ _ => exact hp.elim
theorem crr_abs {W : WX} : CallR C (.builtin "abs") (RCr X W (builtin .abs)) := by
  intro pins s σ H xs us Q I rx ⟨L, vs, st, σ0, hR, rv, hp⟩
  obtain ⟨v, x, rfl, rfl, r1, hp⟩ := one_of (fun v u st => by cases v <;> rfl) rv hp
  cases v <;> try exact hp.elim
  cases r1
  exact call_abs pins s σ H _ us Q I rx ⟨_, rfl, hp.here hR (.int _)⟩
theorem crr_int {W : WX} : CallR C (.type "int") (RCr X W (builtin .int)) := by
  intro pins s σ H xs us Q I rx ⟨L, vs, st, σ0, hR, rv, hp⟩
  obtain ⟨v, x, rfl, rfl, r1, hp⟩ := one_of (fun v u st => by cases v <;> rfl) rv hp
  cases v <;> try exact hp.elim
  · cases r1
    exact call_int1 pins s σ H _ us Q I rx (.inr ⟨_, rfl, hp.here hR (.int _)⟩)
  · cases r1
    exact call_int1 pins s σ H _ us Q I rx (.inl ⟨_, rfl, hp.here hR (.int _)⟩)
theorem crr_tuple {W : WX} (hK : C.K = X.K) : CallR C (.type "tuple") (RCr X W (builtin .tuple)) := by
  intro pins s σ H xs us Q I rx ⟨L, vs, st, σ0, hR, rv, hp⟩
  obtain ⟨v, x, rfl, rfl, r1, hp⟩ := one_of (fun v u st => by cases v <;> rfl) rv hp
  unfold blt1 at hp
  cases e : seqOf st v with
  | none => simp only [e] at hp; exact hp.elim
  | some ws =>
    simp only [e] at hp
    obtain ⟨p, ys, rfl, r2, hs⟩ := seq_at hR r1 e
    refine call_tuple_of pins s σ H _ us Q I rx ⟨p, ys, rfl, ?_⟩
    rcases hs with ⟨h, hs⟩ | ⟨h, hs⟩
    · refine .inr ⟨by rw [hK]; exact hs, ?_⟩
      cases v <;> try cases h
      cases e
      exact hp.here hR r1
    · exact .inl ⟨by rw [hK]; exact hs, new_tup hR r2 hp⟩
theorem crr_list {W : WX} (hK : C.K = X.K) : CallR C (.type "list") (RCr X W (builtin .list)) := by
  intro pins s σ H xs us Q I rx ⟨L, vs, st, σ0, hR, rv, hp⟩
  obtain ⟨v, x, rfl, rfl, r1, hp⟩ := one_of (fun v u st => by cases v <;> rfl) rv hp
  unfold blt1 at hp
  cases e : seqOf st v with
  | none => simp only [e] at hp; exact hp.elim
  | some ws =>
    simp only [e] at hp
    obtain ⟨p, ys, rfl, r2, hs⟩ := seq_at hR r1 e
    exact call_list_of pins s σ H _ us Q I rx ⟨p, ys, rfl, by rw [hK]; exact hs.elim (fun h => .inr h.2) fun h => .inl h.2, (new_list hR r2 hp).2⟩
/-- a built-in upon a list -/
theorem lst_of {b : Blt} (h2 : ∀ v u st, blt2 b v u st = .stuck) (hb : ∀ v st, blt1 b v st = (match isTup v with
    | true => bltT b v st
    | false => (match seqOf st v with
      | some xs => bltL b xs st
      | none => .stuck))) {L : Lg} {H : Hp} {vs : List PV} {xs : List V} {st : Store} {W : WX} {σ : L2.St} {Q : V → Hp → Prop} (hR : Rel X L H st) (r : RVs X L vs xs) (hp : RP X L (RV X) W σ (builtin b vs st) Q) :
    ∃ p ws ys, xs = [.ref p] ∧ RVs X L ws ys ∧ SqL X.K H p ys ∧ RP X L (RV X) W σ (bltL b ws st) Q := by
  obtain ⟨v, x, rfl, rfl, r1, hp⟩ := one_of h2 r hp
  rw [hb] at hp
  cases ht : isTup v with
  | true => rw [ht] at hp; exact hp.elim
  | false =>
    rw [ht] at hp
    cases e : seqOf st v with
    | none => simp only [e] at hp; exact hp.elim
    | some ws =>
      simp only [e] at hp
      obtain ⟨p, ys, rfl, r2, hs⟩ := seq_at hR r1 e
      rcases hs with ⟨h, hs⟩ | ⟨h, hs⟩
      · rw [ht] at h; cases h
      · exact ⟨p, ws, ys, rfl, r2, hs, hp⟩
theorem crr_sum {W : WX} (hK : C.K = X.K) (hc : C.calm = true) : CallR C (.builtin "sum") (RCr X W (builtin .sum)) := by
  intro pins s σ H xs us Q I rx ⟨L, vs, st, σ0, hR, rv, hp⟩
  obtain ⟨p, ws, ys, rfl, r2, hs, hp⟩ := lst_of (fun v u st => by cases v <;> rfl) (fun v st => rfl) hR rv hp
  unfold bltL at hp
  cases e : intsL ws with
  | none => simp only [e] at hp; exact hp.elim
  | some ns =>
    simp only [e] at hp
    obtain ⟨rfl, _⟩ := ints_of e r2
    exact cr_sum hc pins s σ H _ us Q I rx ⟨p, ns, rfl, by rw [hK]; exact hs, hp.here hR (.int _)⟩
theorem crr_any {W : WX} (hK : C.K = X.K) (hc : C.calm = true) : CallR C (.builtin "any") (RCr X W (builtin .any)) := by
  intro pins s σ H xs us Q I rx ⟨L, vs, st, σ0, hR, rv, hp⟩
  obtain ⟨p, ws, ys, rfl, r2, hs, hp⟩ := lst_of (fun v u st => by cases v <;> rfl) (fun v st => rfl) hR rv hp
  unfold bltL at hp
  cases e : boolsL ws with
  | none => simp only [e] at hp; exact hp.elim
  | some ns =>
    simp only [e] at hp
    obtain rfl := bools_of e r2
    exact cr_any hc pins s σ H _ us Q I rx ⟨p, ns, rfl, by rw [hK]; exact hs, hp.here hR (.bl _)⟩
theorem crr_all {W : WX} (hK : C.K = X.K) (hc : C.calm = true) : CallR C (.builtin "all") (RCr X W (builtin .all)) := by
  intro pins s σ H xs us Q I rx ⟨L, vs, st, σ0, hR, rv, hp⟩
  obtain ⟨p, ws, ys, rfl, r2, hs, hp⟩ := lst_of (fun v u st => by cases v <;> rfl) (fun v st => rfl) hR rv hp
  unfold bltL at hp
  cases e : boolsL ws with
  | none => simp only [e] at hp; exact hp.elim
  | some ns =>
    simp only [e] at hp
    obtain rfl := bools_of e r2
    exact cr_all hc pins s σ H _ us Q I rx ⟨p, ns, rfl, by rw [hK]; exact hs, hp.here hR (.bl _)⟩
theorem crr_sorted {W : WX} (hK : C.K = X.K) : CallR C (.builtin "sorted") (RCr X W (builtin .sorted)) := by
  intro pins s σ H xs us Q I rx ⟨L, vs, st, σ0, hR, rv, hp⟩
  obtain ⟨p, ws, ys, rfl, r2, hs, hp⟩ := lst_of (fun v u st => by cases v <;> rfl) (fun v st => rfl) hR rv hp
  unfold bltL at hp
  cases e : intsL ws with
  | none => simp only [e] at hp; exact hp.elim
  | some ns =>
    simp only [e] at hp
    obtain ⟨rfl, _⟩ := ints_of e r2
    refine cr_sortedI pins s σ H _ us Q I rx ⟨p, ns, rfl, by rw [hK]; exact hs, fun ns' q h1 h2 h3 => ?_⟩
    rw [isort_eq h1 h2]
    exact (new_list hR rvs_ints hp).2 q h3
/-- max, min: a list, two, three -/
theorem big_of {b : Blt} (hb : b = .max ∨ b = .min) {L : Lg} {H : Hp} {vs : List PV} {xs : List V} {st : Store} {W : WX} {σ : L2.St} {Q : V → Hp → Prop} (hR : Rel X L H st) (r : RVs X L vs xs) (hp : RP X L (RV X) W σ (builtin b vs st) Q) :
    (∃ p ws ys, xs = [.ref p] ∧ RVs X L ws ys ∧ SqL X.K H p ys ∧ RP X L (RV X) W σ (bltL b ws st) Q) ∨ (∃ i j, xs = [.int i, .int j] ∧ RP X L (RV X) W σ (blt2 b (.int i) (.int j) st) Q) ∨
      (∃ i j k, xs = [.int i, .int j, .int k] ∧ RP X L (RV X) W σ (blt3 b (.int i) (.int j) (.int k) st) Q) := by
  have i2 : ∀ v u st, (∀ i j, ¬ (v = .int i ∧ u = .int j)) → blt2 b v u st = .stuck := fun v u st h => by
    rcases hb with rfl | rfl <;> (cases v <;> cases u <;> first | rfl | exact (h _ _ ⟨rfl, rfl⟩).elim)
  match vs, r, hp with
  | [v], .cons r1 .nil, hp =>
    left
    have hp : RP X L (RV X) W σ (match isTup v with
      | true => bltT b v st
      | false => (match seqOf st v with
        | some xs => bltL b xs st
        | none => .stuck)) Q := by rcases hb with rfl | rfl <;> exact hp
    cases ht : isTup v with
    | true => rw [ht] at hp; exact hp.elim
    | false =>
      rw [ht] at hp
      cases e : seqOf st v with
      | none => simp only [e] at hp; exact hp.elim
      | some ws =>
        simp only [e] at hp
        obtain ⟨p, ys, rfl, r2, hs⟩ := seq_at hR r1 e
        rcases hs with ⟨h, hs⟩ | ⟨h, hs⟩
        · rw [ht] at h; cases h
        · exact ⟨p, ws, ys, rfl, r2, hs, hp⟩
  | [], .nil, hp => exact hp.elim
  | [v, u], .cons r1 (.cons r2 .nil), hp =>
    have hp : RP X L (RV X) W σ (blt2 b v u st) Q := hp
    by_cases h : ∃ i j, v = .int i ∧ u = .int j
    · obtain ⟨i, j, rfl, rfl⟩ := h
      cases r1; cases r2
      exact .inr (.inl ⟨i, j, rfl, hp⟩)
    · rw [i2 v u st fun i j z => h ⟨i, j, z⟩] at hp; exact hp.elim
  | [v, u, w], .cons r1 (.cons r2 (.cons r3 .nil)), hp =>
    have hp : RP X L (RV X) W σ (blt3 b v u w st) Q := hp
    by_cases h : ∃ i j, v = .int i ∧ u = .int j
    · obtain ⟨i, j, rfl, rfl⟩ := h
      by_cases h3 : ∃ k, w = .int k
      · obtain ⟨k, rfl⟩ := h3
        cases r1; cases r2; cases r3
        exact .inr (.inr ⟨i, j, k, rfl, hp⟩)
      · have e : ∀ x, blt2 b x w st = .stuck := fun x => i2 x w st fun i j z => h3 ⟨j, z.2⟩
        unfold blt3 at hp
        cases e0 : blt2 b (.int i) (.int j) st with
        | ok x st1 =>
          rw [e0] at hp
          simp only at hp
          rw [i2 x w st1 fun i j z => h3 ⟨j, z.2⟩] at hp
          exact hp.elim
        | exc _ _ _ _ => rw [e0] at hp; exact hp.elim
        | stuck => rw [e0] at hp; exact hp.elim
    · unfold blt3 at hp
      rw [i2 v u st fun i j z => h ⟨i, j, z⟩] at hp; exact hp.elim
  | _ :: _ :: _ :: _ :: _, _, hp => exact hp.elim
/-! ### isinstance -/
def tyVal (X : Fx) : Ty → Value
  | .bool => .type "bool"
  | .int => .type "int"
  | .str => .type "str"
  | .list => .type "list"
  | .tuple => .type "tuple"
  | .dict => .type "dict"
  | .verr => .type "ValueError"
  | .own c => .ref (X.cA c)
def tyV (X : Fx) : Ty → V
  | .bool => .ty "bool"
  | .int => .ty "int"
  | .str => .ty "str"
  | .list => .ty "list"
  | .tuple => .ty "tuple"
  | .dict => .ty "dict"
  | .verr => .ty "ValueError"
  | .own c => .ref (X.cA c)
theorem ty_cls : ∀ t : Ty, ClsV (tyV X t) (tyVal X t)
  | .bool => .ty _
  | .int => .ty _
  | .str => .ty _
  | .list => .ty _
  | .tuple => .ty _
  | .dict => .ty _
  | .verr => .ty _
  | .own _ => .own _
def TyIn (X : Fx) : Ty → Prop
  | .own d => d < X.nc
  | _ => True
/-- what the written part says of the classes to isinstance -/
structure IsOk (X : Fx) (G : Gl) : Prop where
  oo : ∀ c d, c < X.nc → d < X.nc → PySem.W.kitOne X.K (.ref (X.cA c)) (.ref (X.cA d)) = some (G.sub c d)
  bo : ∀ T ∈ ["NoneType", "bool", "int", "str", "list", "tuple"], ∀ d, d < X.nc → PySem.W.kitOne X.K (.type T) (.ref (X.cA d)) = some false
  ob : ∀ T ∈ ["bool", "int", "str", "list", "tuple", "dict"], ∀ c, c < X.nc → PySem.W.kitOne X.K (.ref (X.cA c)) (.type T) = some false
theorem bb_none (K : PySem.W.Frag) : ∀ T ∈ ["bool", "int", "str", "list", "tuple", "dict", "ValueError"], PySem.W.kitOne K (.type "NoneType") (.type T) = some false := by
  intro T hT
  simp only [List.mem_cons, List.not_mem_nil, or_false] at hT
  rcases hT with rfl | rfl | rfl | rfl | rfl | rfl | rfl <;> exact kit_ty (by decide +kernel)
theorem bb_bool (K : PySem.W.Frag) : ∀ p ∈ [("bool", true), ("int", true), ("str", false), ("list", false), ("tuple", false), ("dict", false), ("ValueError", false)], PySem.W.kitOne K (.type "bool") (.type p.1) = some p.2 := by
  intro T hT
  simp only [List.mem_cons, List.not_mem_nil, or_false] at hT
  rcases hT with rfl | rfl | rfl | rfl | rfl | rfl | rfl <;> exact kit_ty (by decide +kernel)
theorem bb_int (K : PySem.W.Frag) : ∀ p ∈ [("bool", false), ("int", true), ("str", false), ("list", false), ("tuple", false), ("dict", false), ("ValueError", false)], PySem.W.kitOne K (.type "int") (.type p.1) = some p.2 := by
  intro T hT
  simp only [List.mem_cons, List.not_mem_nil, or_false] at hT
  rcases hT with rfl | rfl | rfl | rfl | rfl | rfl | rfl <;> exact kit_ty (by decide +kernel)
theorem bb_str (K : PySem.W.Frag) : ∀ p ∈ [("bool", false), ("int", false), ("str", true), ("list", false), ("tuple", false), ("dict", false), ("ValueError", false)], PySem.W.kitOne K (.type "str") (.type p.1) = some p.2 := by
  intro T hT
  simp only [List.mem_cons, List.not_mem_nil, or_false] at hT
  rcases hT with rfl | rfl | rfl | rfl | rfl | rfl | rfl <;> exact kit_ty (by decide +kernel)
theorem bb_list (K : PySem.W.Frag) : ∀ p ∈ [("bool", false), ("int", false), ("str", false), ("list", true), ("tuple", false), ("dict", false), ("ValueError", false)], PySem.W.kitOne K (.type "list") (.type p.1) = some p.2 := by
  intro T hT
  simp only [List.mem_cons, List.not_mem_nil, or_false] at hT
  rcases hT with rfl | rfl | rfl | rfl | rfl | rfl | rfl <;> exact kit_ty (by decide +kernel)
theorem bb_tuple (K : PySem.W.Frag) : ∀ p ∈ [("bool", false), ("int", false), ("str", false), ("list", false), ("tuple", true), ("dict", false), ("ValueError", false)], PySem.W.kitOne K (.type "tuple") (.type p.1) = some p.2 := by
  intro T hT
  simp only [List.mem_cons, List.not_mem_nil, or_false] at hT
  rcases hT with rfl | rfl | rfl | rfl | rfl | rfl | rfl <;> exact kit_ty (by decide +kernel)
theorem ty_of {L : Lg} {H : Hp} {st : Store} (hI : IsOk X G) (hR : Rel X L H st) {v : PV} {x : V} (r : RV X L v x) {t0 : Ty} {b0 : Bool} (h0 : isTy G.sub st v t0 = some b0) :
    ∃ tv, TyX X.K H x tv ∧ ∀ (t : Ty) (b : Bool), TyIn X t → isTy G.sub st v t = some b → PySem.W.kitOne X.K tv (tyVal X t) = some b := by
  have own : ∀ (c : Nat), c < X.nc → ∀ (t : Ty) (b : Bool), TyIn X t → (match t with | .own d => some (G.sub c d) | .verr => none | _ => some false) = some b → PySem.W.kitOne X.K (.ref (X.cA c)) (tyVal X t) = some b := fun c hc t b ht e => by
    cases t <;> simp only [Option.some.injEq, reduceCtorEq] at e
    all_goals subst e; first | exact hI.ob _ (by simp) c hc | exact hI.oo c _ hc ht
  cases v with
  | non =>
    cases r
    refine ⟨_, .base .non, fun t b ht e => ?_⟩
    cases t <;> cases e
    all_goals first | exact bb_none _ _ (by simp) | exact hI.bo _ (by simp) _ ht
  | bl k =>
    cases r
    refine ⟨_, .base (.bl k), fun t b ht e => ?_⟩
    cases t <;> cases e
    all_goals first | exact bb_bool _ (_, _) (by simp) | exact hI.bo _ (by simp) _ ht
  | int k =>
    cases r
    refine ⟨_, .base (.int k), fun t b ht e => ?_⟩
    cases t <;> cases e
    all_goals first | exact bb_int _ (_, _) (by simp) | exact hI.bo _ (by simp) _ ht
  | str k =>
    cases r
    refine ⟨_, .base (.str k), fun t b ht e => ?_⟩
    cases t <;> cases e
    all_goals first | exact bb_str _ (_, _) (by simp) | exact hI.bo _ (by simp) _ ht
  | tup ws =>
    have q : ∀ (t : Ty) (b : Bool), TyIn X t → isTy G.sub st (.tup ws) t = some b → PySem.W.kitOne X.K (.type "tuple") (tyVal X t) = some b := fun t b ht e => by
      cases t <;> cases e
      all_goals first | exact bb_tuple _ (_, _) (by simp) | exact hI.bo _ (by simp) _ ht
    cases r with
    | tup h1 h2 => exact ⟨_, .base (.tup (hR.sub _ _ h1)), q⟩
    | ktup h1 h2 =>
      obtain ⟨o, its, n, k1, k2, _⟩ := h1
      exact ⟨_, .kTuple k1 k2, q⟩
  | flst ws =>
    have q : ∀ (t : Ty) (b : Bool), TyIn X t → isTy G.sub st (.flst ws) t = some b → PySem.W.kitOne X.K (.type "list") (tyVal X t) = some b := fun t b ht e => by
      cases t <;> cases e
      all_goals first | exact bb_list _ (_, _) (by simp) | exact hI.bo _ (by simp) _ ht
    cases r with
    | flst h1 h2 => exact ⟨_, .base (.frz (hR.sub _ _ h1)), q⟩
    | kflst h1 h2 =>
      obtain ⟨o, its, n, k1, k2, _⟩ := h1
      exact ⟨_, .kList k1 k2, q⟩
  | ins c ks ws =>
    cases r with
    | ins h1 h2 h3 h4 h5 => exact ⟨_, .base (.ins (hR.sub _ _ h1) h3.cl h3.ha h3.hn h3.ht h3.hm), fun t b ht e => own c h3.lt t b ht e⟩
  | obj i =>
    simp only [isTy] at h0
    cases e1 : st[i]? with
    | none => rw [e1] at h0; cases h0
    | some cl =>
      cases r with
      | obj h1 =>
        cases cl with
        | lst ws =>
          obtain ⟨xs, h2, h3⟩ := cell_lst hR h1 e1
          refine ⟨_, .base (.lst h2), fun t b ht e => ?_⟩
          simp only [isTy, e1] at e
          cases t <;> cases e
          all_goals first | exact bb_list _ (_, _) (by simp) | exact hI.bo _ (by simp) _ ht
        | ins c ks ws =>
          obtain ⟨dx, xs, h2, h3, h4, h5, h6⟩ := cell_ins hR h1 e1
          refine ⟨_, .base (.ins h2 h4.cl h4.ha h4.hn h4.ht h4.hm), fun t b ht e => ?_⟩
          simp only [isTy, e1] at e
          exact own c h4.lt t b ht e
        | dead => rw [e1] at h0; cases h0
/-- a name that is a class -/
def PTy (X : Fx) (C : Cx) (e : PySem.Expr) (t : Ty) : Prop := TyIn X t ∧ PE C e (tC (tyV X t)) ∧ noStar e = true
def PTys (X : Fx) (C : Cx) : List PySem.Expr → List Ty → Prop
  | [], [] => True
  | e :: es, t :: ts => PTy X C e t ∧ PTys X C es ts
  | _, _ => False
theorem pa_tys : ∀ {es : List PySem.Expr} {ts : List Ty}, PTys X C es ts → PA C es (fun _ H Q => Q (ts.map (tyV X)) H) ∧ es.all noStar = true
  | [], [], _ => ⟨pa_nil, rfl⟩
  | e :: es, t :: ts, ⟨⟨_, h1, h2⟩, h⟩ => by
    obtain ⟨q1, q2⟩ := pa_tys h
    exact ⟨PA.imp (pa_cons h1 q1 (star_of h2 _ _)) fun σ H Q z => z, by simp [h2, q2]⟩
theorem tys_cls : ∀ ts : List Ty, Paired ClsV (ts.map (tyV X)) (ts.map (tyVal X))
  | [] => .nil
  | t :: ts => .cons (ty_cls t) (tys_cls ts)
theorem PTys.in : ∀ {es : List PySem.Expr} {ts : List Ty}, PTys X C es ts → ∀ t ∈ ts, TyIn X t
  | [], [], _, _, h => by cases h
  | e :: es, u :: ts, ⟨⟨h1, _⟩, h⟩, t, ht => by
    rcases List.mem_cons.mp ht with rfl | ht
    · exact h1
    · exact PTys.in h t ht
theorem kit_anys {tv : Value} {st : Store} {v : PV} (q : ∀ (t : Ty) (b : Bool), TyIn X t → isTy G.sub st v t = some b → PySem.W.kitOne X.K tv (tyVal X t) = some b) : ∀ {ts : List Ty} {b : Bool}, (∀ t ∈ ts, TyIn X t) → isTys G.sub st v ts = some b → PySem.W.kitAny X.K tv (ts.map (tyVal X)) = some b
  | [], b, _, e => by cases e; rfl
  | t :: ts, b, hi, e => by
    simp only [isTys] at e
    cases e1 : isTy G.sub st v t with
    | none => rw [e1] at e; cases e
    | some k =>
      rw [e1] at e
      have h1 := q t k (hi t List.mem_cons_self) e1
      show PySem.W.kitAny X.K tv (tyVal X t :: ts.map (tyVal X)) = some b
      cases k with
      | true => cases e; exact kitAny_cons h1 (fun z => nomatch z) (fun _ => rfl)
      | false => exact kitAny_cons h1 (fun _ => kit_anys q (fun t ht => hi t (List.mem_cons_of_mem _ ht)) e) (fun z => nomatch z)
theorem isTys_one {st : Store} {v : PV} {t : Ty} {b : Bool} (e : isTys G.sub st v [t] = some b) : isTy G.sub st v t = some b := by
  simp only [isTys] at e
  cases e1 : isTy G.sub st v t with
  | none => rw [e1] at e; cases e
  | some k => rw [e1] at e; cases k <;> cases e <;> rfl
/-- isinstance(a, T) -/
theorem per_isin {e : PySem.Expr} {t : Ty} {p : Pos} (hI : IsOk X G) (hK : C.K = X.K) (hg : L2.Gl C "isinstance") (hm : C.mg "isinstance" = none) (ha : PEr X J C a (evE G ca)) (hs : noStar a = true) (ht : PTy X C e t) :
    PEr X J C (.Call (.Name "isinstance" p) [a, e] [] pos) (evE G (.isin ca [t])) := fun W tk =>
  PE.imp (pe_callB call_isi hg hm (show bootBuiltins "isinstance" = some (.builtin "isinstance") by decide +kernel) (pa_cons (ha W tk) (pa_cons ht.2.1 pa_nil (star_of ht.2.2 _ _)) (star_of hs _ _)) (by decide) (by decide) (star_of hs _ _) (plain_args (by simp [ht.2.2]) _ _)) fun σ H Q h => by
    obtain ⟨L, fr, st, hR, hF, hp⟩ := h
    simp only [evE] at hp
    refine ⟨L, fr, st, hR, hF, RP.imp (RP.bind hp) ?_⟩
    rintro x H1 ⟨L1, v, st1, le, hR1, r, hp1⟩
    cases e1 : isTys G.sub st1 v [t] with
    | none => rw [e1] at hp1; exact hp1.elim
    | some b =>
      rw [e1] at hp1
      have e2 := isTys_one e1
      obtain ⟨tv, h1, h2⟩ := ty_of hI hR1 r e2
      refine ⟨x, tyV X t, tv, tyVal X t, b, rfl, ty_cls t, by rw [hK]; exact h1, by rw [hK]; exact h2 t b ht.1 e2, ?_⟩
      cases b with
      | true => exact hp1.here hR1 (.bl true)
      | false => exact hp1.here hR1 (.bl false)
theorem per_isinT {es : List PySem.Expr} {ts : List Ty} {p p2 : Pos} {k : Nat} {e : PySem.Expr} {t : Ty} (hI : IsOk X G) (hK : C.K = X.K) (hg : L2.Gl C "isinstance") (hm : C.mg "isinstance" = none) (ha : PEr X J C a (evE G ca)) (hs : noStar a = true) (ht : PTys X C (e :: es) (t :: ts)) (hz : (t :: ts).length ≤ 1000) :
    PEr X J C (.Call (.Name "isinstance" p) [a, .Tuple (e :: es) k p2] [] pos) (evE G (.isin ca (t :: ts))) := fun W tk =>
  PE.imp (pe_callB call_isiT hg hm (show bootBuiltins "isinstance" = some (.builtin "isinstance") by decide +kernel) (pa_cons (ha W tk) (pa_cons (pe_tup (pa_tys ht).1) pa_nil) (star_of hs _ _)) (by decide) (by decide) (star_of hs _ _) (plain_args rfl _ _)) fun σ H Q h => by
    obtain ⟨L, fr, st, hR, hF, hp⟩ := h
    simp only [evE] at hp
    refine ⟨L, fr, st, hR, hF, RP.imp (RP.bind hp) ?_⟩
    rintro x H1 ⟨L1, v, st1, le, hR1, r, hp1⟩
    refine ⟨by simp only [List.length_map]; exact Nat.le_trans hz (by decide), fun q nq => ?_⟩
    cases e1 : isTys G.sub st1 v (t :: ts) with
    | none => rw [e1] at hp1; exact hp1.elim
    | some b =>
      rw [e1] at hp1
      have e2 : ∃ b0, isTy G.sub st1 v t = some b0 := by
        simp only [isTys] at e1
        cases e3 : isTy G.sub st1 v t with
        | none => rw [e3] at e1; cases e1
        | some b0 => exact ⟨b0, rfl⟩
      obtain ⟨b0, e2⟩ := e2
      have hR2 : Rel X L1 (upd H1 q (.tup ((t :: ts).map (tyV X)))) st1 := hR1.newH nq
      obtain ⟨tv, h1, h2⟩ := ty_of hI hR2 r e2
      refine ⟨x, q, _, tv, _, b, rfl, upd_same, tys_cls (t :: ts), by rw [hK]; exact h1, by rw [hK]; exact kit_anys h2 ht.in e1, ?_⟩
      cases b with
      | true => exact hp1.here hR2 (.bl true)
      | false => exact hp1.here hR2 (.bl false)
end
end Ev

set_option Elab.async false
set_option linter.all false
set_option maxRecDepth 100000
set_option maxHeartbeats 2000000
/-! max, min, list methods, tuple(range(..)). -/
namespace Ev
open PySem PySem.Spec PyProof.Rows L2
section
variable {X : Fx} {J : Jd} {C : Cx} {G : Gl} {e a b o : PySem.Expr} {ce ca cb co : CE} {es : List PySem.Expr} {ces : List CE} {pos : Pos}
theorem numax2 (i j : Int) : nuMax2 (.int i) (.int j) = some (.int (if j > i then j else i)) := by
  unfold nuMax2 nuLt nuCB
  by_cases h : j > i
  · have h' : i < j := h
    simp [h']
  · have h' : ¬ i < j := h
    simp [h']
theorem numin2 (i j : Int) : nuMin2 (.int i) (.int j) = some (.int (if j < i then j else i)) := by
  unfold nuMin2 nuLt nuCB
  by_cases h : j < i <;> simp [h]
theorem numax3 (i j k : Int) : nuMax3 (.int i) (.int j) (.int k) = some (.int (if k > (if j > i then j else i) then k else (if j > i then j else i))) := by
  unfold nuMax3
  rw [numax2]
  exact numax2 _ _
theorem numin3 (i j k : Int) : nuMin3 (.int i) (.int j) (.int k) = some (.int (if k < (if j < i then j else i) then k else (if j < i then j else i))) := by
  unfold nuMin3
  rw [numin2]
  exact numin2 _ _
theorem crr_max {W : WX} (hK : C.K = X.K) (hc : C.calm = true) : CallR C (.builtin "max") (RCr X W (builtin .max)) := by
  intro pins s σ H xs us Q I rx ⟨L, vs, st, σ0, hR, rv, hp⟩
  rcases big_of (.inl rfl) hR rv hp with ⟨p, ws, ys, rfl, r2, hs, hp⟩ | ⟨i, j, rfl, hp⟩ | ⟨i, j, k, rfl, hp⟩
  · unfold bltL at hp
    cases e : intsL ws with
    | none => simp only [e] at hp; exact hp.elim
    | some ns =>
      simp only [e] at hp
      obtain ⟨rfl, _⟩ := ints_of e r2
      cases e2 : lmax ns with
      | none => simp only [e2] at hp; exact hp.elim
      | some m =>
        simp only [e2] at hp
        refine cr_max hc pins s σ H _ us Q I rx ⟨p, ns, rfl, by rw [hK]; exact hs, lmax_pos e2, fun k h1 h2 => ?_⟩
        rw [lmax_eq e2 h1 h2]
        exact hp.here hR (.int _)
  · exact call_max2 hc pins s σ H _ us Q I rx ⟨i, j, rfl, hp.here hR (.int _)⟩
  · exact call_max3Nu hc pins s σ H _ us Q I rx ⟨.int i, .int j, .int k, _, rfl, numax3 i j k, hp.here hR (.int _)⟩
theorem crr_min {W : WX} (hK : C.K = X.K) (hc : C.calm = true) : CallR C (.builtin "min") (RCr X W (builtin .min)) := by
  intro pins s σ H xs us Q I rx ⟨L, vs, st, σ0, hR, rv, hp⟩
  rcases big_of (.inr rfl) hR rv hp with ⟨p, ws, ys, rfl, r2, hs, hp⟩ | ⟨i, j, rfl, hp⟩ | ⟨i, j, k, rfl, hp⟩
  · unfold bltL at hp
    cases e : intsL ws with
    | none => simp only [e] at hp; exact hp.elim
    | some ns =>
      simp only [e] at hp
      obtain ⟨rfl, _⟩ := ints_of e r2
      cases e2 : lmin ns with
      | none => simp only [e2] at hp; exact hp.elim
      | some m =>
        simp only [e2] at hp
        refine cr_min hc pins s σ H _ us Q I rx ⟨p, ns, rfl, by rw [hK]; exact hs, lmin_pos e2, fun k h1 h2 => ?_⟩
        rw [lmin_eq e2 h1 h2]
        exact hp.here hR (.int _)
  · exact call_min2 hc pins s σ H _ us Q I rx ⟨i, j, rfl, hp.here hR (.int _)⟩
  · exact call_min3Nu hc pins s σ H _ us Q I rx ⟨.int i, .int j, .int k, _, rfl, numin3 i j k, hp.here hR (.int _)⟩
/-! ### list methods -/
theorem Res.bind_assoc {α β γ : Type} (r : Res α) (f : α → Store → Res β) (g : β → Store → Res γ) : (r.bind f).bind g = r.bind fun x st => (f x st).bind g := by cases r <;> rfl
theorem isLst_at {L : Lg} {H : Hp} {st : Store} (hR : Rel X L H st) {v : PV} {x : V} (r : RV X L v x) {k : Bool} (e : isLst st v = some k) : k = true ∧ ∃ i p vs xs, v = .obj i ∧ x = .ref p ∧ L.m[i]? = some p ∧ st[i]? = some (.lst vs) ∧ H p = some (.lst xs) ∧ RVs X L vs xs := by
  cases v <;> try cases e
  case obj i =>
    simp only [isLst] at e
    cases e1 : st[i]? with
    | none => rw [e1] at e; cases e
    | some c => cases c with
      | lst vs =>
        rw [e1] at e; cases e
        cases r with
        | obj h1 =>
          obtain ⟨xs, h2, h3⟩ := cell_lst hR h1 e1
          exact ⟨rfl, i, _, vs, xs, rfl, rfl, h1, e1, h2, h3⟩
      | ins _ _ _ => rw [e1] at e; cases e
      | dead => rw [e1] at e; cases e
theorem few_of {es : List PySem.Expr} (h : es.all noStar = true) (hl : es.length < 28) (p : Pos) (env : Env) :
    ((backTo p (starEach es env)).all (fun x => !x.1) && (backToKw p (keywordEach [] env)).all (fun x => x.1.isSome)
      && decide (es.length + ([] : List Keyword).length + (if ([] : List Keyword).isEmpty then 0 else 1) < 30)) = true := by
  have h1 : (backTo p (starEach es env)).all (fun x => !x.1) = true := by
    have := plain_args h p env
    rw [List.any_eq_false] at this
    rw [List.all_eq_true]
    intro x hx
    have := this x hx
    simpa using this
  have h2 : (backToKw p (keywordEach [] env)).all (fun x => x.1.isSome) = true := rfl
  rw [h1, h2]
  simp
  omega
/-- o.append(e) -/
theorem per_append {apos : Pos} (hn : notCall0 o = true) (hl : (apos.endLine == pos.line) = true) (hs : noStar e = true) (ho : PEr X J C o (evE G co)) (he : PEr X J C e (evE G ce)) :
    PEr X J C (.Call (.Attribute o "append" apos) [e] [] pos) (evE G (.lm .append co [ce])) := fun W tk =>
  PE.imp (pe_bm PySem.F.plainAttrs_list PySem.F.slot_list_append PySem.F.type_list_append mt_append (ho W tk) (pa_cons (he W tk) pa_nil (star_of hs _ _)) (base_of hn _ _) (few_of (by simp [hs]) (by simp) _ _) hl (star_of hs _ _) rfl) fun σ H Q h => by
    obtain ⟨L, fr, st, hR, hF, hp⟩ := h
    simp only [evE, evEs] at hp
    refine ⟨L, fr, st, hR, hF, RP.imp (RP.bind hp) ?_⟩
    rintro x H1 ⟨L1, v, st1, le, hR1, r, hp1⟩
    cases e1 : isLst st1 v with
    | none => rw [e1] at hp1; exact hp1.elim
    | some k =>
      rw [e1] at hp1
      obtain ⟨rfl, i, p, vs, xs, rfl, rfl, h1, h2, h3, h4⟩ := isLst_at hR1 r e1
      refine ⟨.inl ⟨rfl, xs, .inl (.inl h3)⟩, L1, fr, st1, hR1, hF.mono le, ?_⟩
      have hp2 : RP X L1 (RV X) W σ ((evE G ce fr st1).bind fun u st2 => lmeth .append (.obj i) [u] st2) Q := by
        have q := hp1
        unfold cond at q
        simp only [Res.bind_assoc] at q
        exact q
      refine RP.imp (RP.bind hp2) ?_
      rintro y H2 ⟨L2, u, st2, le2, hR2, r2, hp3⟩
      unfold lmeth at hp3
      cases e2 : st2[i]? with
      | none => simp only [e2] at hp3; exact hp3.elim
      | some c => cases c with
        | lst ws =>
          simp only [e2] at hp3
          obtain ⟨ys, h5, h6⟩ := cell_lst hR2 (le2.m _ _ h1) e2
          unfold setL at hp3
          by_cases hz : sizeOk (ws ++ [u]).length = true
          · rw [if_pos hz] at hp3
            have hz' := lineOk hz
            rw [List.length_append, List.length_singleton, h6.length] at hz'
            refine ⟨p, ys, y, rfl, rfl, h5, hz', hp3.here (hR2.write (le2.m _ _ h1) ⟨_, upd_same, h6.snoc r2⟩) .non⟩
          · rw [if_neg hz] at hp3; exact hp3.elim
        | ins _ _ _ => simp only [e2] at hp3; exact hp3.elim
        | dead => simp only [e2] at hp3; exact hp3.elim
/-- o.pop() -/
theorem per_pop {apos : Pos} (hn : notCall0 o = true) (hl : (apos.endLine == pos.line) = true) (ho : PEr X J C o (evE G co)) :
    PEr X J C (.Call (.Attribute o "pop" apos) [] [] pos) (evE G (.lm .pop co [])) := fun W tk =>
  PE.imp (pe_bm0 PySem.F.plainAttrs_list PySem.F.slot_list_pop PySem.F.type_list_pop mt_pop (ho W tk) (base_of hn _ _) hl) fun σ H Q h => by
    obtain ⟨L, fr, st, hR, hF, hp⟩ := h
    simp only [evE, evEs] at hp
    refine ⟨L, fr, st, hR, hF, RP.imp (RP.bind hp) ?_⟩
    rintro x H1 ⟨L1, v, st1, le, hR1, r, hp1⟩
    cases e1 : isLst st1 v with
    | none => rw [e1] at hp1; exact hp1.elim
    | some k =>
      rw [e1] at hp1
      obtain ⟨rfl, i, p, vs, xs, rfl, rfl, h1, h2, h3, h4⟩ := isLst_at hR1 r e1
      refine ⟨.inl ⟨rfl, xs, .inl (.inl h3)⟩, ?_⟩
      have hp2 : RP X L1 (RV X) W σ (lmeth .pop (.obj i) [] st1) Q := hp1
      unfold lmeth at hp2
      simp only [h2] at hp2
      cases e2 : vs[vs.length - 1]? with
      | none => rw [e2] at hp2; exact hp2.elim
      | some u =>
        rw [e2] at hp2
        obtain ⟨y, q1, q2⟩ := h4.get e2
        unfold setL at hp2
        by_cases hz : sizeOk vs.dropLast.length = true
        · simp only [if_pos hz] at hp2
          refine ⟨p, xs, y, rfl, rfl, h3, by rw [← h4.length]; exact q1, hp2.here (hR1.write h1 ⟨_, upd_same, h4.dropLast⟩) q2⟩
        · simp only [if_neg hz] at hp2; exact hp2.elim
/-! ### ranges to tuples, lists -/
theorem rv_range {L : Lg} (lo hi : Int) : RVs X L (rangeL lo (hi - lo).toNat) (rgV lo hi) := by
  unfold rangeL rgV
  generalize (hi - lo).toNat = n
  have : ∀ ks : List Nat, RVs X L (ks.map fun i => PV.int (lo + (i : Nat))) (ks.map fun i => V.int (lo + (i : Nat))) := by
    intro ks
    induction ks with
    | nil => exact .nil
    | cons k ks ih => exact .cons (.int _) ih
  exact this _
theorem rangeL_len (lo : Int) (n : Nat) : (rangeL lo n).length = n := by unfold rangeL; simp
theorem rgOk_of {i j : Int} (h1 : smallI i = true) (h2 : smallI j = true) (h3 : sizeOk (rangeL i (j - i).toNat).length = true) : RgOk i j := by
  unfold smallI at h1 h2
  simp only [Bool.and_eq_true, decide_eq_true_eq] at h1 h2
  have h4 := of_decide_eq_true h3
  rw [rangeL_len] at h4
  exact ⟨h1.1, h1.2, h2.1, h2.2, by omega⟩
def convOk (b : Blt) : Bool := match b with
  | .tuple => true
  | .list => true
  | _ => false
theorem conv_tuple {L : Lg} {H : Hp} {st : Store} {W : WX} {σ : L2.St} {Q : V → Hp → Prop} (hR : Rel X L H st) {vs : List PV} {i j : Int} (e : rangeOf vs = some (rangeL i (j - i).toNat)) (hi : smallI i = true) (hj : smallI j = true)
    (hp : RP X L (RV X) W σ (if sizeOk (rangeL i (j - i).toNat).length then bltL .tuple (rangeL i (j - i).toNat) st else .stuck) Q) : RgOk i j ∧ ∀ q, H q = none → Q (.ref q) (upd H q (.tup (rgV i j))) := by
  by_cases hz : sizeOk (rangeL i (j - i).toNat).length = true
  · rw [if_pos hz] at hp
    exact ⟨rgOk_of hi hj hz, new_tup hR (rv_range i j) hp⟩
  · rw [if_neg hz] at hp; exact hp.elim
theorem conv_list {L : Lg} {H : Hp} {st : Store} {W : WX} {σ : L2.St} {Q : V → Hp → Prop} (hR : Rel X L H st) {vs : List PV} {i j : Int} (e : rangeOf vs = some (rangeL i (j - i).toNat)) (hi : smallI i = true) (hj : smallI j = true)
    (hp : RP X L (RV X) W σ (if sizeOk (rangeL i (j - i).toNat).length then bltL .list (rangeL i (j - i).toNat) st else .stuck) Q) : RgOk i j ∧ ∀ q, H q = none → Q (.ref q) (upd H q (.lst (rgV i j))) := by
  by_cases hz : sizeOk (rangeL i (j - i).toNat).length = true
  · rw [if_pos hz] at hp
    exact ⟨rgOk_of hi hj hz, (new_list hR (rv_range i j) hp).2⟩
  · rw [if_neg hz] at hp; exact hp.elim
theorem rng1_of {W : WX} {σ : L2.St} {H : Hp} {Q : V → Hp → Prop} {bl : Blt} {k : Int → Int → Hp → Prop} (h : TEr X J W (evE G (.bltI bl (.rng [ca]))) σ H Q)
    (hk : ∀ (L : Lg) (H1 : Hp) (st : Store) (j : Int), Rel X L H1 st → smallI j = true → RP X L (RV X) W σ (if sizeOk (rangeL 0 (j - 0).toNat).length then bltL bl (rangeL 0 (j - 0).toNat) st else .stuck) Q → k 0 j H1) : tRg1 (TEr X J W (evE G ca)) σ H k := by
  obtain ⟨L, fr, st, hR, hF, hp⟩ := h
  simp only [evE, evI, evEs, Res.bind_assoc] at hp
  refine ⟨L, fr, st, hR, hF, RP.imp (RP.bind hp) ?_⟩
  rintro x H1 ⟨L1, v, st1, le, hR1, r, hp1⟩
  simp only [Res.bind] at hp1
  cases v <;> try exact hp1.elim
  rename_i j
  cases r
  refine ⟨j, rfl, hk L1 H1 st1 j hR1 ?_ ?_⟩
  · simp only [rangeOf] at hp1
    by_cases hs : smallI j = true
    · exact hs
    · rw [if_neg hs] at hp1; exact hp1.elim
  · simp only [rangeOf] at hp1
    by_cases hs : smallI j = true
    · rw [if_pos hs] at hp1
      rw [Int.sub_zero]
      exact hp1
    · rw [if_neg hs] at hp1; exact hp1.elim
theorem rng2_of {W : WX} {σ : L2.St} {H : Hp} {Q : V → Hp → Prop} {bl : Blt} {k : Int → Int → Hp → Prop} (h : TEr X J W (evE G (.bltI bl (.rng [ca, cb]))) σ H Q)
    (hk : ∀ (L : Lg) (H1 : Hp) (st : Store) (i j : Int), Rel X L H1 st → smallI i = true → smallI j = true → RP X L (RV X) W σ (if sizeOk (rangeL i (j - i).toNat).length then bltL bl (rangeL i (j - i).toNat) st else .stuck) Q → k i j H1) : tRg2 (TEr X J W (evE G ca)) (TEr X J W (evE G cb)) σ H k := by
  obtain ⟨L, fr, st, hR, hF, hp⟩ := h
  simp only [evE, evI, evEs, Res.bind_assoc] at hp
  refine ⟨L, fr, st, hR, hF, RP.imp (RP.bind hp) ?_⟩
  rintro x H1 ⟨L1, v, st1, le, hR1, r, hp1⟩
  refine ⟨L1, fr, st1, hR1, hF.mono le, RP.imp (RP.bind hp1) ?_⟩
  rintro y H2 ⟨L2, u, st2, le2, hR2, r2, hp2⟩
  simp only [Res.bind] at hp2
  cases v <;> try exact hp2.elim
  rename_i i
  cases u <;> try exact hp2.elim
  rename_i j
  cases r; cases r2
  by_cases hs : (smallI i && smallI j) = true
  · simp only [rangeOf] at hp2
    rw [if_pos hs] at hp2
    rw [Bool.and_eq_true] at hs
    exact ⟨i, j, rfl, rfl, hk L2 H2 st2 i j hR2 hs.1 hs.2 hp2⟩
  · simp only [rangeOf] at hp2
    rw [if_neg hs] at hp2; exact hp2.elim
section
variable {p p2 p3 : Pos}
theorem per_tupRg1 (hc : C.calm = true) (ht : L2.Gl C "tuple") (hm : C.mg "tuple" = none) (hg : L2.Gl C "range") (hm2 : C.mg "range" = none) (hs : noStar a = true) (ha : PEr X J C a (evE G ca)) :
    PEr X J C (.Call (.Name "tuple" p) [.Call (.Name "range" p2) [a] [] p3] [] pos) (evE G (.bltI .tuple (.rng [ca]))) := fun W tk =>
  PE.imp (pe_tupRg hc ht hm (prg_1 hg hm2 (ha W tk) (star_of hs _ _))) fun σ H Q h => rng1_of h fun L H1 st j hR hj hp => conv_tuple (vs := [.int j]) hR (by simp only [rangeOf, if_pos hj]; rw [Int.sub_zero]) (by decide) hj hp
theorem per_lstRg1 (hc : C.calm = true) (ht : L2.Gl C "list") (hm : C.mg "list" = none) (hg : L2.Gl C "range") (hm2 : C.mg "range" = none) (hs : noStar a = true) (ha : PEr X J C a (evE G ca)) :
    PEr X J C (.Call (.Name "list" p) [.Call (.Name "range" p2) [a] [] p3] [] pos) (evE G (.bltI .list (.rng [ca]))) := fun W tk =>
  PE.imp (pe_listRg hc ht hm (prg_1 hg hm2 (ha W tk) (star_of hs _ _))) fun σ H Q h => rng1_of h fun L H1 st j hR hj hp => conv_list (vs := [.int j]) hR (by simp only [rangeOf, if_pos hj]; rw [Int.sub_zero]) (by decide) hj hp
theorem per_tupRg2 (hc : C.calm = true) (ht : L2.Gl C "tuple") (hm : C.mg "tuple" = none) (hg : L2.Gl C "range") (hm2 : C.mg "range" = none) (hs : noStar a = true) (hs2 : noStar b = true) (ha : PEr X J C a (evE G ca)) (hb : PEr X J C b (evE G cb)) :
    PEr X J C (.Call (.Name "tuple" p) [.Call (.Name "range" p2) [a, b] [] p3] [] pos) (evE G (.bltI .tuple (.rng [ca, cb]))) := fun W tk =>
  PE.imp (pe_tupRg hc ht hm (prg_2 hg hm2 (ha W tk) (hb W tk) (star_of hs _ _) (star_of hs2 _ _) (plain_args (by simp [hs2]) _ _))) fun σ H Q h => rng2_of h fun L H1 st i j hR hi hj hp => conv_tuple (vs := [.int i, .int j]) hR (by simp [rangeOf, hi, hj]) hi hj hp
theorem per_lstRg2 (hc : C.calm = true) (ht : L2.Gl C "list") (hm : C.mg "list" = none) (hg : L2.Gl C "range") (hm2 : C.mg "range" = none) (hs : noStar a = true) (hs2 : noStar b = true) (ha : PEr X J C a (evE G ca)) (hb : PEr X J C b (evE G cb)) :
    PEr X J C (.Call (.Name "list" p) [.Call (.Name "range" p2) [a, b] [] p3] [] pos) (evE G (.bltI .list (.rng [ca, cb]))) := fun W tk =>
  PE.imp (pe_listRg hc ht hm (prg_2 hg hm2 (ha W tk) (hb W tk) (star_of hs _ _) (star_of hs2 _ _) (plain_args (by simp [hs2]) _ _))) fun σ H Q h => rng2_of h fun L H1 st i j hR hi hj hp => conv_list (vs := [.int i, .int j]) hR (by simp [rangeOf, hi, hj]) hi hj hp
end
end
end Ev

set_option Elab.async false
set_option linter.all false
set_option maxRecDepth 100000
set_option maxHeartbeats 2000000
/-! How the arguments of a call are bound: positional ones, keywords, defaults; plain parameters alone. -/
namespace Ev
open PySem PySem.Spec PyProof.Rows L2
def fillD {α : Type} : List (Str × α) → List (Str × α) → List (Str × α)
  | s, [] => s
  | s, (n, d) :: r => if (s.lookup n).isNone = true then fillD (s ++ [(n, d)]) r else fillD s r
def mapS {α β : Type} (f : α → β) (l : List (Str × α)) : List (Str × β) := l.map fun p => (p.1, f p.2)
section
variable {α β : Type} {f : α → β}
theorem lookup_mapS {n : Str} : ∀ {l : List (Str × α)}, (mapS f l).lookup n = (l.lookup n).map f
  | [] => rfl
  | (k, v) :: l => by
    show List.lookup n ((k, f v) :: mapS f l) = _
    rw [List.lookup_cons, List.lookup_cons]
    cases h : n == k with
    | true => rfl
    | false => exact lookup_mapS
theorem fillD_map : ∀ {l s : List (Str × α)}, fillD (mapS f s) (mapS f l) = mapS f (fillD s l)
  | [], s => rfl
  | (n, d) :: l, s => by
    show (if ((mapS f s).lookup n).isNone = true then fillD (mapS f s ++ [(n, f d)]) (mapS f l) else fillD (mapS f s) (mapS f l)) = mapS f (if (s.lookup n).isNone = true then fillD (s ++ [(n, d)]) l else fillD s l)
    rw [lookup_mapS]
    have e : mapS f s ++ [(n, f d)] = mapS f (s ++ [(n, d)]) := by simp [mapS]
    rw [e]
    cases h : s.lookup n with
    | none => simp only [Option.map_none, Option.isNone_none, if_true]; exact fillD_map
    | some v => simp only [Option.map_some, Option.isNone_some, Bool.false_eq_true, if_false]; exact fillD_map
theorem zip_map : ∀ {P : List Str} {l : List α}, P.zip (l.map f) = mapS f (P.zip l)
  | [], _ => rfl
  | p :: P, [] => rfl
  | p :: P, a :: l => by
    show (p, f a) :: P.zip (l.map f) = (p, f a) :: mapS f (P.zip l)
    rw [zip_map]
theorem get_fm (s : List (Str × α)) : ∀ P : List Str, P.filterMap (fun n => ((mapS f s).lookup n).map (n, ·)) = mapS f (P.filterMap fun n => (s.lookup n).map (n, ·))
  | [] => rfl
  | p :: P => by
    rw [List.filterMap_cons, List.filterMap_cons, lookup_mapS]
    cases s.lookup p with
    | none => exact get_fm s P
    | some v =>
      show (p, f v) :: _ = (p, f v) :: _
      rw [get_fm s P]
      rfl
end
/-- where each parameter's value comes from: the place in positional ++ keywords' ++ defaults -/
def bcode (P : List Str) (n : Nat) (ks : List Str) (nd : Nat) : List (Str × Nat) :=
  P.filterMap fun x => ((fillD (P.zip (List.range' 0 n) ++ ks.zip (List.range' n ks.length)) ((P.drop (P.length - nd)).zip (List.range' (n + ks.length) nd))).lookup x).map (x, ·)
def bOk (P : List Str) (n : Nat) (ks : List Str) (nd : Nat) : Bool :=
  decide (n ≤ P.length) && (decide (nd ≤ P.length) && (ks.all (fun k => P.contains k) && (decide ((P.take n ++ ks).Nodup) && (((P.take (P.length - nd)).all fun x => (P.take n ++ ks).contains x) && decide ((bcode P n ks nd).map (·.1) = P)))))
def codes (P : List Str) (n : Nat) (ks : List Str) (nd : Nat) : List Nat := (bcode P n ks nd).map (·.2)
theorem range_get (l : List Value) : ∀ (pre post : List Value), (List.range' pre.length l.length).map (fun i => (pre ++ l ++ post).getD i .none) = l := by
  induction l with
  | nil => intro _ _; rfl
  | cons a l ih =>
    intro pre post
    simp only [List.length_cons, List.range'_succ, List.map_cons]
    have e : pre ++ a :: l ++ post = (pre ++ [a]) ++ l ++ post := by simp
    have h2 := ih (pre ++ [a]) post
    rw [List.length_append, List.length_singleton] at h2
    rw [e, h2]
    simp
theorem kw_loop (P : List Str) : ∀ (ks : List Str) (ws : List Value) (slots ex : List (Str × Value)), ws.length = ks.length → (ks.all fun k => P.contains k) = true → (slots.map (·.1) ++ ks).Nodup →
    ∀ (g : Str × Value → List (Str × Value) × List (Str × Value) → Sem (ForInStep (List (Str × Value) × List (Str × Value)))),
      (∀ k v s, P.contains k = true → (s.fst.lookup k).isSome = false → g (k, v) s = pure (.yield ⟨s.fst ++ [(k, v)], s.snd⟩)) → forIn (ks.zip ws) (slots, ex) g = pure ⟨slots ++ ks.zip ws, ex⟩
  | [], _, slots, ex, _, _, _, g, _ => by simp
  | k :: ks, [], slots, ex, h, _, _, g, _ => by simp at h
  | k :: ks, w :: ws, slots, ex, h, hc, nd, g, hg => by
    have hc' : P.contains k = true ∧ (ks.all fun k => P.contains k) = true := by simpa using hc
    have hn : (slots.lookup k).isSome = false := by
      cases e : slots.lookup k with
      | none => rfl
      | some v =>
        have hm : k ∈ slots.map (·.1) := List.mem_map.mpr ⟨(k, v), PySem.mem_of_lookup e, rfl⟩
        exact absurd rfl ((List.nodup_append.mp nd).2.2 k hm k List.mem_cons_self)
    show forIn ((k, w) :: ks.zip ws) _ g = _
    rw [List.forIn_cons, hg k w ⟨slots, ex⟩ hc'.1 hn, pure_bind]
    have ih := kw_loop P ks ws (slots ++ [(k, w)]) ex (by simpa using h) hc'.2 (by simpa [List.map_append] using nd) g hg
    show forIn (ks.zip ws) _ g = _
    rw [ih]
    simp
theorem def_loop : ∀ (l s : List (Str × Value)) (g : Str × Value → List (Str × Value) → Sem (ForInStep (List (Str × Value)))),
    (∀ x s, g x s = if (s.lookup x.1).isNone = true then pure (.yield (s ++ [(x.1, x.2)])) else pure (.yield s)) → forIn l s g = pure (fillD s l)
  | [], s, g, _ => by simp [fillD]
  | (n, d) :: l, s, g, hg => by
    rw [List.forIn_cons, hg]
    unfold fillD
    by_cases h : (s.lookup n).isNone = true
    · rw [if_pos h, if_pos h, pure_bind]
      exact def_loop l _ g hg
    · rw [if_neg h, if_neg h, pure_bind]
      exact def_loop l _ g hg
theorem lookup_none_iff {α : Type} {n : Str} : ∀ {l : List (Str × α)}, n ∈ l.map (·.1) → (l.lookup n).isNone = false
  | [], h => by cases h
  | (k, v) :: l, h => by
    rw [List.lookup_cons]
    cases e : n == k with
    | true => rfl
    | false =>
      refine lookup_none_iff (l := l) ?_
      rcases List.mem_cons.mp h with h | h
      · rw [h] at e; simp at e
      · exact h
theorem zip_fst {α : Type} : ∀ {P : List Str} {l : List α}, (P.zip l).map (·.1) = P.take l.length
  | [], _ => by simp
  | p :: P, [] => by simp
  | p :: P, a :: l => by
    show p :: (P.zip l).map (·.1) = p :: P.take l.length
    rw [zip_fst]
/-- plain parameters alone -/
structure Plain (p : Arguments) (P : List Str) : Prop where
  po : p.posonlyargs = []
  ar : p.args.map (·.arg) = P
  ko : p.kwonlyargs = []
  va : p.vararg = none
  ka : p.kwarg = none
def plainB (p : Arguments) (P : List Str) : Bool := p.posonlyargs.isEmpty && (decide (p.args.map (·.arg) = P) && (p.kwonlyargs.isEmpty && (p.vararg.isNone && p.kwarg.isNone)))
theorem plainB_ok {p : Arguments} {P : List Str} (h : plainB p P = true) : Plain p P := by
  simp only [plainB, Bool.and_eq_true, decide_eq_true_eq, List.isEmpty_iff, Option.isNone_iff_eq_none] at h
  exact ⟨h.1, h.2.1, h.2.2.1, h.2.2.2.1, h.2.2.2.2⟩
theorem bind_gen {fd : FuncData} {P ks : List Str} {us ws its : List Value} {o : Option (Array Value)} {n nd : Nat} (hp : Plain fd.params P) (hu : us.length = n) (hw : ws.length = ks.length) (ho : (o.getD #[]).toList = its) (hi : its.length = nd) (hb : bOk P n ks nd = true) :
    ∃ k, bindArgs fd ⟨us, ks.zip ws⟩ = seqItems? fd.defaults >>= k ∧ k o = pure (P.zip ((codes P n ks nd).map fun i => (us ++ ws ++ its).getD i .none)) := by
  subst hu hi
  obtain ⟨h1, h2, h3, h4, h5⟩ := hp
  simp only [bOk, Bool.and_eq_true, decide_eq_true_eq] at hb
  obtain ⟨b1, b2, b3, b4, b5, b6⟩ := hb
  unfold bindArgs
  simp only [h1, h2, h3, h4, h5, List.map_nil, List.nil_append, List.append_nil, List.contains_nil, Bool.or_false, Option.isSome_none, Bool.false_eq_true, if_false, List.forIn_nil, pure_bind, Option.isNone_none, Bool.and_true, List.isEmpty_nil, Bool.not_true]
  rw [kw_loop P ks ws (P.zip us) [] hw b3 (by rw [zip_fst]; exact b4) _ (fun k v s hc hn => by simp only [hc, if_true, hn, Bool.false_eq_true, if_false, pure_bind])]
  rw [pure_bind]
  refine ⟨_, rfl, ?_⟩
  have hz : decide (us.length > P.length) = false := decide_eq_false (by omega)
  simp only [ho, hz, Bool.false_eq_true, if_false]
  have e0 : its.length - P.length = 0 := by omega
  have hmiss : (List.filter (fun x => (List.lookup x (P.zip us ++ ks.zip ws)).isNone) (List.take (P.length - its.length) P)).isEmpty = true := by
    rw [List.isEmpty_iff, List.filter_eq_nil_iff]
    intro x hx
    rw [List.all_eq_true] at b5
    have hx2 := b5 x hx
    rw [Bool.not_eq_true]
    refine lookup_none_iff ?_
    rw [List.map_append, zip_fst, zip_fst, hw, List.take_length]
    exact List.contains_iff_mem.mp hx2
  simp only [e0, List.drop_zero, hmiss, Bool.not_true, Bool.false_eq_true, if_false]
  rw [def_loop _ _ _ (fun x s => rfl), pure_bind]
  have f1 : P.zip us = mapS (fun i => (us ++ ws ++ its).getD i .none) (P.zip (List.range' 0 us.length)) := by
    rw [← zip_map]
    congr 1
    have := range_get us [] (ws ++ its)
    simpa [List.append_assoc] using this.symm
  have f2 : ks.zip ws = mapS (fun i => (us ++ ws ++ its).getD i .none) (ks.zip (List.range' us.length ks.length)) := by
    rw [← zip_map]
    congr 1
    have := range_get ws us its
    rw [hw] at this
    exact this.symm
  have f3 : (P.drop (P.length - its.length)).zip its = mapS (fun i => (us ++ ws ++ its).getD i .none) ((P.drop (P.length - its.length)).zip (List.range' (us.length + ks.length) its.length)) := by
    rw [← zip_map]
    congr 1
    have := range_get its (us ++ ws) []
    rw [List.length_append, hw, List.append_nil] at this
    exact this.symm
  have f4 : mapS (fun i => (us ++ ws ++ its).getD i .none) (P.zip (List.range' 0 us.length)) ++ mapS (fun i => (us ++ ws ++ its).getD i .none) (ks.zip (List.range' us.length ks.length)) = mapS (fun i => (us ++ ws ++ its).getD i .none) (P.zip (List.range' 0 us.length) ++ ks.zip (List.range' us.length ks.length)) := by simp [mapS]
  rw [f1, f2, f3, f4, fillD_map, get_fm]
  congr 1
  show mapS _ (bcode P us.length ks its.length) = _
  have f5 : ∀ (Q : List Str) (l : List (Str × Nat)), l.map (·.1) = Q → mapS (fun i => (us ++ ws ++ its).getD i .none) l = Q.zip ((l.map (·.2)).map fun i => (us ++ ws ++ its).getD i .none) := by
    intro Q l
    induction l generalizing Q with
    | nil => intro h; subst h; rfl
    | cons p l ih =>
      intro h
      subst h
      have h2 := ih _ rfl
      simp only [List.map_cons, List.zip_cons_cons, mapS] at h2 ⊢
      rw [h2]
  exact f5 P _ b6
section
variable {K : PySem.W.Frag} {x qual : Str} {params : Arguments} {body : List Stmt} {scope : Scope} {dvs : List V} {f : Addr} {fd : FuncData} {P : List Str}
/-- the arguments of a call by their codes -/
def argsBy {α : Type} (d : α) (cs : List Nat) (l : List α) : List α := cs.map fun i => l.getD i d
theorem vals_getD : ∀ {vs : List V} {us : List Value} (i : Nat), Vals vs us → RelV (vs.getD i .non) (us.getD i .none)
  | [], [], _, .nil => rfl
  | v :: vs, u :: us, 0, .cons r _ => r
  | v :: vs, u :: us, i + 1, .cons _ rs => vals_getD i rs
theorem vals_by {vs : List V} {us : List Value} (h : Vals vs us) : ∀ cs : List Nat, Vals (argsBy .non cs vs) (argsBy .none cs us)
  | [] => .nil
  | c :: cs => .cons (vals_getD c h) (vals_by h cs)
theorem bind_any (F : FunD K x qual params body scope dvs [] f fd) (hp : Plain params P) {n : Nat} {ks : List Str} (hb : bOk P n ks dvs.length = true) :
    ∃ its : List Value, Vals dvs its ∧ ∀ (s : Shared) (us ws : List Value), K.In s.heap → us.length = n → ws.length = ks.length → BindsTo s fd ⟨us, ks.zip ws⟩ (P.zip (argsBy .none (codes P n ks dvs.length) (us ++ ws ++ its))) := by
  obtain ⟨oc, od, dV, kV, doc, pm, an, cdv, ct, osl, rfl, lk, hcd, hD, hK⟩ := F.ex
  rcases hD with ⟨rfl, rfl⟩ | ⟨_, T, o, its, m, rfl, lT, oT, rT⟩
  · refine ⟨[], .nil, fun s us ws X hu hw => ?_⟩
    obtain ⟨k, e1, e2⟩ := bind_gen (fd := PySem.W.fnOf x qual params body scope .none kV doc pm an cdv ct) (o := none) (its := []) (nd := 0) hp hu hw rfl rfl hb
    refine BindsTo.of_eq ?_
    rw [e1]
    have e3 : seqItems? (PySem.W.fnOf x qual params body scope .none kV doc pm an cdv ct).defaults = pure none := rfl
    rw [e3, pure_bind]
    exact e2
  · refine ⟨its, rT, fun s us ws X hu hw => ?_⟩
    obtain ⟨k, e1, e2⟩ := bind_gen (fd := PySem.W.fnOf x qual params body scope (.ref T) kV doc pm an cdv ct) (o := some its.toArray) (its := its) (nd := dvs.length) hp hu hw (by simp) rT.length.symm hb
    refine BindsTo.of_looks fun M => ?_
    rw [e1]
    exact looks_items X lT oT (.of_pure e2)
end
end Ev

set_option Elab.async false
set_option linter.all false
set_option maxRecDepth 100000
set_option maxHeartbeats 2000000
/-! Cells let go; defs. -/
namespace Ev
open PySem PySem.Spec PyProof.Rows L2
section
variable {X : Fx} {L L1 : Lg}
/-! ### closed values -/
mutual
theorem RV.closed : ∀ {v : PV} {x : V}, RV X L v x → Ev.closed L.m.length v = true
  | _, _, .non => rfl
  | _, _, .bl _ => rfl
  | _, _, .int _ => rfl
  | _, _, .str _ => rfl
  | _, _, .tup _ r => RVs.closed r
  | _, _, .ktup _ r => RVs.closed r
  | _, _, .flst _ r => RVs.closed r
  | _, _, .kflst _ r => RVs.closed r
  | _, _, .obj e => by
    show decide _ = true
    exact decide_eq_true (List.getElem?_eq_some_iff.mp e).1
  | _, _, .ins _ _ _ _ r => RVs.closed r
theorem RVs.closed : ∀ {vs : List PV} {xs : List V}, RVs X L vs xs → Ev.closeds L.m.length vs = true
  | _, _, .nil => rfl
  | _, _, .cons a r => by
    show (Ev.closed _ _ && Ev.closeds _ _) = true
    rw [RV.closed a, RVs.closed r]
    rfl
end
/-- the ledger without the cells from n on, something more laid -/
structure Lg.cut (L L' : Lg) (n : Nat) : Prop where
  F : ∀ a o, L.F a = some o → L'.F a = some o
  m : L'.m = L.m.take n
theorem Lg.cutTo (L : Lg) (n : Nat) : L.cut { L with m := L.m.take n } n := ⟨fun _ _ h => h, rfl⟩
mutual
theorem RV.cut {L' : Lg} {n : Nat} (h : L.cut L' n) : ∀ {v : PV} {x : V}, Ev.closed n v = true → RV X L v x → RV X L' v x
  | _, _, _, .non => .non
  | _, _, _, .bl b => .bl b
  | _, _, _, .int i => .int i
  | _, _, _, .str s => .str s
  | _, _, c, .tup e r => .tup (h.F _ _ e) (RVs.cut h c r)
  | _, _, c, .ktup e r => .ktup e (RVs.cut h c r)
  | _, _, c, .flst e r => .flst (h.F _ _ e) (RVs.cut h c r)
  | _, _, c, .kflst e r => .kflst e (RVs.cut h c r)
  | .obj i, _, c, .obj e => .obj (by
      have c' : i < n := of_decide_eq_true c
      rw [h.m, List.getElem?_take_of_lt c']
      exact e)
  | _, _, c, .ins e l k f r => .ins (h.F _ _ e) l k f (RVs.cut h c r)
theorem RVs.cut {L' : Lg} {n : Nat} (h : L.cut L' n) : ∀ {vs : List PV} {xs : List V}, Ev.closeds n vs = true → RVs X L vs xs → RVs X L' vs xs
  | _, _, _, .nil => .nil
  | _, _, c, .cons a r => by
    have c' : (Ev.closed n _ && Ev.closeds n _) = true := c
    rw [Bool.and_eq_true] at c'
    exact .cons (RV.cut h c'.1 a) (RVs.cut h c'.2 r)
end
theorem CellR.cut {L' : Lg} {n : Nat} {H : Hp} (h : L.cut L' n) : ∀ {c : Cell} {a : Addr}, Ev.closedC n c = true → CellR X L H c a → CellR X L' H c a
  | .lst _, _, k, ⟨xs, e, r⟩ => ⟨xs, e, r.cut h k⟩
  | .ins _ _ _, _, k, ⟨dx, xs, e, l, c, f, r⟩ => ⟨dx, xs, e, l, c, f, r.cut h k⟩
  | .dead, _, _, r => r
theorem Rel.cut {H : Hp} {st : Store} {n : Nat} (r : Rel X L H st) (hn : n ≤ st.length) (hc : (st.take n).all (Ev.closedC n) = true) : Rel X { L with m := L.m.take n } H (st.take n) := by
  refine ⟨r.sub, by simp [r.len], r.nd.sublist (List.take_sublist _ _), fun a h => r.fr a (List.mem_of_mem_take h), fun a o e => ?_, fun i c e => ?_⟩
  · obtain ⟨h1, h2, h3⟩ := r.pr a o e
    exact ⟨h1, h2, fun h => h3 (List.mem_of_mem_take h)⟩
  · have hi : i < n := by
      have := (List.getElem?_eq_some_iff.mp e).1
      rw [List.length_take] at this
      omega
    rw [List.getElem?_take_of_lt hi] at e
    obtain ⟨a, e1, e2⟩ := r.cell i c e
    refine ⟨a, by show (L.m.take n)[i]? = _; rw [List.getElem?_take_of_lt hi]; exact e1, e2.cut (L.cutTo n) ?_⟩
    rw [List.all_eq_true] at hc
    exact hc c (List.mem_of_getElem? (by rw [List.getElem?_take_of_lt hi]; exact e))
theorem Cell.beq_eq : ∀ {a b : Cell}, Cell.beq a b = true → a = b
  | .lst a, .lst b, h => by simp only [Cell.beq] at h; rw [beqs_eq h]
  | .ins c k v, .ins c' k' v', h => by simp only [Cell.beq, Bool.and_eq_true, decide_eq_true_eq] at h; rw [h.1, h.2.1, beqs_eq h.2.2]
  | .dead, .dead, _ => rfl
theorem Store.beq_eq : ∀ {a b : Store}, Store.beq a b = true → a = b
  | [], [], _ => rfl
  | a :: as, b :: bs, h => by
    have h' : (Cell.beq a b && Store.beq as bs) = true := h
    rw [Bool.and_eq_true] at h'
    rw [Cell.beq_eq h'.1, Store.beq_eq h'.2]
theorem Rel.closedAll {H : Hp} {st : Store} (r : Rel X L H st) : st.all (Ev.closedC st.length) = true := by
  rw [List.all_eq_true]
  intro c hc
  obtain ⟨i, hi, e⟩ := List.getElem_of_mem hc
  obtain ⟨a, e1, e2⟩ := r.cell i c (by rw [List.getElem?_eq_getElem hi, e])
  rw [← r.len]
  cases c with
  | lst vs => obtain ⟨_, _, q⟩ := e2; exact q.closed
  | ins c ks vs => obtain ⟨_, _, _, _, _, _, q⟩ := e2; exact q.closed
  | dead => rfl
/-- what gcOk gives -/
theorem gc_cut {H H1 : Hp} {st st1 : Store} {v : PV} (hR : Rel X L H st) (le : L.le L1) (hR1 : Rel X L1 H1 st1) (h : gcOk st.length st st1 v = true) :
    Ev.closed st.length v = true ∧ (st1.take st.length).all (Ev.closedC st.length) = true ∧ st.length ≤ st1.length ∧ L.le { L1 with m := L1.m.take st.length } := by
  unfold gcOk at h
  rw [Bool.and_eq_true, Bool.or_eq_true] at h
  obtain ⟨h1, h2⟩ := h
  have hlen : st.length ≤ st1.length := by
    rw [← hR.len, ← hR1.len]
    by_cases z : L.m.length = 0
    · omega
    · have := le.m (L.m.length - 1) L.m[L.m.length - 1] (by rw [List.getElem?_eq_getElem])
      have := (List.getElem?_eq_some_iff.mp this).1
      omega
  refine ⟨h1, ?_, hlen, le.F, fun i a e => ?_, le.P⟩
  · rcases h2 with h2 | h2
    · rw [Store.beq_eq h2]; exact hR.closedAll
    · exact h2
  · have hi : i < st.length := by rw [← hR.len]; exact (List.getElem?_eq_some_iff.mp e).1
    show (L1.m.take st.length)[i]? = some a
    rw [List.getElem?_take_of_lt hi]
    exact le.m i a e
theorem gc_rp {H H1 : Hp} {st st1 : Store} {v : PV} {x : V} {W : WX} {σ : L2.St} {Q : V → Hp → Prop} (hR : Rel X L H st) (le : L.le L1) (hR1 : Rel X L1 H1 st1) (r : RV X L1 v x) (hp : RP X L (RV X) W σ (gc st v st1) Q) : Q x H1 := by
  unfold gc at hp
  by_cases h0 : st1.length = st.length
  · rw [if_pos h0] at hp
    exact hp L1 H1 x le hR1 r
  · rw [if_neg h0] at hp
    by_cases h1 : gcOk st.length st st1 v = true
    · rw [if_pos h1] at hp
      obtain ⟨c1, c2, c3, c4⟩ := gc_cut hR le hR1 h1
      exact hp _ H1 x c4 (hR1.cut c3 c2) (r.cut (L1.cutTo _) c1)
    · rw [if_neg h1] at hp
      exact hp L1 H1 x le hR1 r
theorem XR.cut {L' : Lg} {n : Nat} {c : Nat} {ks : List Nat} {vs : List PV} {cls : Value} {d : Option Addr} (h : L.cut L' n) (hc : Ev.closeds n vs = true) : XR X L c ks vs cls d → XR X L' c ks vs cls d
  | ⟨e, xs, fs, q, c', f, o, r⟩ => ⟨e, xs, fs, fun k x z => let ⟨dd, e1, e2, e3⟩ := q k x z; ⟨dd, e1, h.F _ _ e2, e3⟩, c', f, o.elim .inl (fun ⟨dd, fs', e1, e2⟩ => .inr ⟨dd, fs', e1, h.F _ _ e2⟩), r.cut h hc⟩
theorem gcX_rp {α β : Type} {R : Lg → α → β → Prop} {H H1 : Hp} {st st1 : Store} {c : Nat} {ks : List Nat} {vs : List PV} {cls : Value} {d : Option Addr} {W : WX} {σ : L2.St} {Q : V → Hp → Prop} (hR : Rel X L H st) (le : L.le L1) (hR1 : Rel X L1 H1 st1) (r : XR X L1 c ks vs cls d) (hp : RP X L (RV X) W σ (gcX st c ks vs st1) Q) : W cls d σ H1 := by
  unfold gcX at hp
  by_cases h0 : st1.length = st.length
  · rw [if_pos h0] at hp
    exact hp L1 H1 cls d le hR1 r
  · rw [if_neg h0] at hp
    by_cases h1 : gcOk st.length st st1 (.tup vs) = true
    · rw [if_pos h1] at hp
      obtain ⟨c1, c2, c3, c4⟩ := gc_cut hR le hR1 h1
      exact hp _ H1 cls d c4 (hR1.cut c3 c2) (r.cut (L1.cutTo _) c1)
    · rw [if_neg h1] at hp
      exact hp L1 H1 cls d le hR1 r
end
/-! ### defs -/
/-- a def of the text -/
structure DefW where
  nm : Str
  qual : Str
  params : Arguments
  body : List Stmt
  scope : Scope
  dvs : List V
  fA : Addr
  fd : FuncData
  N : List Str
  ps : List Str
structure DefOk (K : PySem.W.Frag) (D : DefW) (cf : CFun) : Prop where
  F : FunD K D.nm D.qual D.params D.body D.scope D.dvs [] D.fA D.fd
  S : FnScope D.N D.ps D.scope
  pl : Plain D.params D.ps
  np : cf.np = D.ps.length
  nl : cf.nl = D.N.length
/-- what a def promises -/
def spF (X : Fx) (f : List PV → Store → Res PV) (np : Nat) : Sp := fun vs H Q E => vs.length = np ∧ ∃ (L : Lg) (args : List PV) (st : Store), Rel X L H st ∧ RVs X L args vs ∧ RP X L (RV X) (fun cls d _ H' => E cls d H') [] (f args st) Q
theorem start_fr {X : Fx} {L : Lg} {args : List PV} {vs : List V} (r : RVs X L args vs) {N : List Str} {np nl : Nat} (h1 : args.length = np) (h2 : nl = N.length) (h3 : np ≤ nl) :
    FRel X J0 L (args.map some ++ List.replicate (nl - np) none) (L2.start N vs) := by
  have hl := r.length
  refine ⟨trivial, ?_, fun i v e => ?_⟩
  · unfold L2.start
    simp only [List.length_append, List.length_map, List.length_replicate]
    omega
  · have hi : i < args.length := by
      by_cases hi : i < args.length
      · exact hi
      · rw [List.getElem?_append_right (by simpa using hi)] at e
        rw [List.getElem?_replicate] at e
        split at e <;> cases e
    rw [List.getElem?_append_left (by simpa using hi), List.getElem?_map] at e
    cases ea : args[i]? with
    | none => rw [ea] at e; cases e
    | some a =>
      rw [ea] at e
      cases e
      obtain ⟨x, e1, e2⟩ := r.get ea
      refine ⟨x, ?_, e2⟩
      unfold L2.start
      rw [List.getElem?_append_left (by simp; omega), List.getElem?_map, e1]
      rfl
/-- a def's body kept, so is its promise -/
theorem fn_step {X : Fx} {P : Program} {w : World} {mg : Str → Option Value} {base : Heap} {D : DefW} {cf : CFun} {k : Nat} {G : Gl} {f : List PV → Store → Res PV} (ok : DefOk X.K D cf) (hf : ∀ args st, f args st = runF G cf args st)
    (hb : ∀ (cdv : Value) (A : Around) (outer : List Env) (s : Shared) (H : Hp) (E : XK), Room k (A.deeper (envOfC D.qual D.scope s.heap.objs.size D.fA cdv)) →
      PSsr X J0 (cxOf (L2.CX P w) P w X.K mg base D.N D.qual D.scope D.fA cdv A outer s H E) D.body (exSs G cf.body)) :
    FnOk P w X.K mg base (L2.CX P w) (k + 1) D.fA D.fd D.ps (spF X f cf.np) := by
  refine ok.F.ok ok.S (fun vs H Q E h => h.1.trans ok.np) fun cdv A outer s H vs Q E hr hsp => ?_
  obtain ⟨hl, L, args, st, hR, ra, hp⟩ := hsp
  rw [hf] at hp
  have hla : args.length = cf.np := by rw [ra.length]; exact hl
  unfold runF at hp
  rw [if_pos hla] at hp
  have hpl : cf.np ≤ cf.nl := by
    rw [ok.np, ok.nl]
    have := congrArg List.length ok.S.pre
    rw [List.length_take] at this
    omega
  have tk : Takes (cxOf (L2.CX P w) P w X.K mg base D.N D.qual D.scope D.fA cdv A outer s H E) (fun cls d _ H' => E cls d H') := takes_of (X := cxOf (L2.CX P w) P w X.K mg base D.N D.qual D.scope D.fA cdv A outer s H E) rfl rfl rfl rfl
  refine ⟨_, hb cdv A outer s H E hr _ tk, L, _, st, hR, start_fr ra hla ok.nl hpl, ?_⟩
  have hp' : RP X L (RV X) (fun cls d _ H' => E cls d H') [] (fin st (exSs G cf.body (args.map some ++ List.replicate (cf.nl - cf.np) none) st)) Q := hp
  cases e : exSs G cf.body (args.map some ++ List.replicate (cf.nl - cf.np) none) st with
  | nx fr1 st1 =>
    rw [e] at hp'
    exact fun L1 H1 σ1 le r1 f1 => gc_rp hR le r1 .non hp'
  | rt v st1 =>
    rw [e] at hp'
    exact fun L1 H1 x le r1 rv => gc_rp hR le r1 rv hp'
  | bk _ _ => rw [e] at hp'; exact hp'.elim
  | ct _ _ => rw [e] at hp'; exact hp'.elim
  | exc c ks vs fr1 st1 =>
    rw [e] at hp'
    exact fun L1 H1 σ1 cls d le r1 f1 rx => gcX_rp (R := RV X) hR le r1 rx hp'
  | stuck => rw [e] at hp'; exact hp'.elim
end Ev

set_option Elab.async false
set_option linter.all false
set_option maxRecDepth 100000
set_option maxHeartbeats 2000000
/-! Calls of own defs, making, methods, own ==. -/
namespace Ev
open PySem PySem.Spec PyProof.Rows L2
/-- what a global name is -/
inductive GK where
  | fn (i : Nat)
  | cls (c : Nat)
  | con (v : PV)
structure Ent where
  T : Tab
  defs : List DefW
  globs : List (Str × GK)
  /-- the exception classes -/
  xcls : List Nat
  /-- the attributes' names -/
  atts : List Str
  /-- the parameters, the defaults -/
  sig : List (List Str × List PV)
/-- the names of built-ins that stand -/
def bltNames : List Str := ["len", "abs", "int", "tuple", "list", "sum", "any", "all", "max", "min", "sorted", "isinstance", "range", "enumerate", "zip", "reversed", "bool", "str", "dict", "ValueError", "iter", "set"]
structure FullOk (D : DefW) : Prop where
  b : bOk D.ps D.ps.length [] D.dvs.length = true
  c : codes D.ps D.ps.length [] D.dvs.length = List.range D.ps.length
/-- the table at depth n -/
def Gn (E : Ent) (n : Nat) (xn : Option (Nat × List Nat × List PV)) : Gl := ⟨callN E.T n, fun c => E.T.cls[c]?, xn⟩
structure EntOk (X : Fx) (E : Ent) (mg : Str → Option Value) : Prop where
  df : ∀ (i : Nat) D, E.defs[i]? = some D → ∃ cf, E.T.fns[i]? = some cf ∧ DefOk X.K D cf ∧ FullOk D
  fn : ∀ x i, E.globs.lookup x = some (.fn i) → ∃ D, E.defs[i]? = some D ∧ mg x = some (.ref D.fA)
  cl : ∀ x c, E.globs.lookup x = some (.cls c) → mg x = some (.ref (X.cA c)) ∧ c < X.nc
  co : ∀ x v, E.globs.lookup x = some (.con v) → ∃ u y, mg x = some u ∧ RelV y u ∧ ∀ L, RV X L v y
  no : ∀ x ∈ bltNames, E.globs.lookup x = none → mg x = none
  ini : ∀ (c : Nat) CC f, E.T.cls[c]? = some CC → CC.init = some f → ClsOk X c ∧ ∃ D, E.defs[f]? = some D ∧ Mk X.K (X.cA c) D.fA
  me : ∀ (c : Nat) CC m f, E.T.cls[c]? = some CC → lookN m CC.meths = some f → ∃ D, E.defs[f]? = some D ∧ Meth X.K (X.cA c) (X.aN m) D.fA
  eq : ∀ (c : Nat) CC f, E.T.cls[c]? = some CC → CC.eq = some f → ∃ D, E.defs[f]? = some D ∧ PySem.W.findIn X.K (.ref (X.cA c)) "__eq__" = some (some (.ref D.fA)) ∧ PySem.W.isFn X.K (.ref D.fA) = true ∧ PySem.W.notFirst X.K (X.cA c) (.ref (X.cA c)) = true
  fl : ∀ (c : Nat) CC f, E.T.cls[c]? = some CC → (CC.flds.any fun e => e == f) = true → NoAttr X.K (X.cA c) (X.aN f)
  at_ : ∀ (i : Nat) a, E.atts[i]? = some a → X.aN i = a
  sg : ∀ (i : Nat) ps dp, E.sig[i]? = some (ps, dp) → ∃ D, E.defs[i]? = some D ∧ D.ps = ps ∧ D.dvs.length = dp.length ∧ ∀ L, RVs X L dp D.dvs
  isk : IsOk X (Gn E 0 none)
  xm : ∀ c d, c < X.nc → d ∈ E.xcls → PySem.W.exmOne X.K (.ref (X.cA c)) (.ref (X.cA d)) = some ((Gn E 0 none).sub c d)
theorem EntOk.is {X : Fx} {E : Ent} {mg : Str → Option Value} (h : EntOk X E mg) (n : Nat) (xn : Option (Nat × List Nat × List PV)) : IsOk X (Gn E n xn) := ⟨h.isk.oo, h.isk.bo, h.isk.ob⟩
/-- what a body's context must bear -/
structure CxOk (X : Fx) (E : Ent) (n : Nat) (C : Cx) : Prop where
  K : C.K = X.K
  en : EntOk X E C.mg
  fns : ∀ (i : Nat) D cf, E.defs[i]? = some D → E.T.fns[i]? = some cf → FnOk C.prog C.w C.K C.mg C.base (L2.CX C.prog C.w) (4 * n) D.fA D.fd D.ps (spF X (callN E.T n i) cf.np)
  room : Room (4 * n + 3) C.A
  calm : C.calm = true
theorem CxOk.blk {X : Fx} {E : Ent} {n : Nat} {C : Cx} (c : CxOk X E n C) (s : Shared) (H : Hp) (scope : Scope) (ce : Env) (fp : List Addr) : CxOk X E n (C.blk s H scope ce fp) := ⟨c.K, c.en, c.fns, c.room, c.calm⟩
theorem CxOk.units {X : Fx} {E : Ent} {n : Nat} {C : Cx} (c : CxOk X E n C) : C.A.units + 64 < cLine := by
  have := c.room.un
  omega
section
variable {X : Fx} {J : Jd} {C : Cx} {E : Ent} {n : Nat} {xn : Option (Nat × List Nat × List PV)} {e a b o : PySem.Expr} {ce ca cb co : CE} {es : List PySem.Expr} {ces : List CE} {pos : Pos}
/-! ### the arguments, bound -/
theorem argsBy_range {α : Type} (d : α) : ∀ (l : List α), argsBy d (List.range l.length) l = l := fun l => by
  unfold argsBy
  apply List.ext_getElem?
  intro i
  rw [List.getElem?_map]
  by_cases h : i < l.length
  · rw [List.getElem?_range h]
    simp [List.getD_eq_getElem?_getD, h]
  · rw [List.getElem?_eq_none (by simpa using h), List.getElem?_eq_none (by omega)]
    rfl
theorem binds_full {K : PySem.W.Frag} {D : DefW} {cf : CFun} (ok : DefOk K D cf) (fu : FullOk D) : Binds K D.fd D.ps [] := fun s us hK hl => by
  rw [List.append_nil] at hl ⊢
  obtain ⟨its, _, h⟩ := bind_any (n := D.ps.length) (ks := []) ok.F ok.pl fu.b
  have h2 := h s us [] hK hl rfl
  rw [fu.c, List.append_nil] at h2
  have e : argsBy Value.none (List.range D.ps.length) (us ++ its) = us := by
    have : argsBy Value.none (List.range D.ps.length) (us ++ its) = argsBy Value.none (List.range us.length) us := by
      unfold argsBy
      rw [hl]
      apply List.map_congr_left
      intro i hi
      have hi' : i < us.length := by rw [hl]; simpa using hi
      simp [List.getD_eq_getElem?_getD, List.getElem?_append_left hi']
    rw [this, argsBy_range]
  rw [e] at h2
  exact h2
theorem rvs_by {L : Lg} {vs : List PV} {xs : List V} (r : RVs X L vs xs) : ∀ {cs : List Nat} {as : List PV}, omap (fun i => vs[i]?) cs = some as → RVs X L as (argsBy .non cs xs)
  | [], as, e => by cases e; exact .nil
  | c :: cs, as, e => by
    simp only [omap] at e
    cases e1 : vs[c]? with
    | none => rw [e1] at e; cases e
    | some v =>
      rw [e1] at e
      simp only at e
      cases e2 : omap (fun i => vs[i]?) cs with
      | none => rw [e2] at e; cases e
      | some ws =>
        rw [e2] at e
        cases e
        obtain ⟨x, q1, q2⟩ := r.get e1
        refine .cons ?_ (rvs_by r e2)
        show RV X L v (xs.getD c V.non)
        rw [List.getD_eq_getElem?_getD, q1]
        exact q2
theorem omap_len {α β : Type} {f : α → Option β} : ∀ {xs : List α} {ys : List β}, omap f xs = some ys → ys.length = xs.length
  | [], ys, e => by cases e; rfl
  | x :: xs, ys, e => by
    simp only [omap] at e
    cases e1 : f x with
    | none => rw [e1] at e; cases e
    | some y =>
      rw [e1] at e
      simp only at e
      cases e2 : omap f xs with
      | none => rw [e2] at e; cases e
      | some ws => rw [e2] at e; cases e; simp [omap_len e2]
theorem codes_len {P : List Str} {n : Nat} {ks : List Str} {nd : Nat} (h : bOk P n ks nd = true) : (codes P n ks nd).length = P.length := by
  simp only [bOk, Bool.and_eq_true, decide_eq_true_eq] at h
  unfold codes
  rw [List.length_map]
  have := congrArg List.length h.2.2.2.2.2
  rwa [List.length_map] at this
/-! ### keywords' values -/
def kwEs : List Keyword → List PySem.Expr := fun l => l.map fun k => match k with | ⟨_, e, _⟩ => e
def PKr (X : Fx) (J : Jd) (C : Cx) (kws : List Keyword) (f : Frame → Store → Res (List PV)) : Prop := ∀ W, Takes C W → PK C kws (TAr X J W f)
theorem pkr_nil {G : Gl} : PKr X J C [] (evEs G []) := fun W tk => ⟨fun pos pins s σ H Q I h => pk_nil.run pos pins s σ H Q I (by
  obtain ⟨L, fr, st, hR, hF, hp⟩ := h
  exact RP.here (R := RVs X) hp hR .nil)⟩
theorem pkr_cons {G : Gl} {nm : Option Str} {kp : Pos} {kws : List Keyword} (ha : PEr X J C e (evE G ca)) (hr : PKr X J C kws (evEs G ces)) : PKr X J C (⟨nm, e, kp⟩ :: kws) (evEs G (ca :: ces)) := fun W tk =>
  ⟨fun pos pins s σ H Q I h => (pk_cons (ha W tk) (hr W tk)).run pos pins s σ H Q I (by
    obtain ⟨L, fr, st, hR, hF, hp⟩ := h
    simp only [evEs] at hp
    refine ⟨L, fr, st, hR, hF, RP.imp (RP.bind hp) ?_⟩
    rintro x H1 ⟨L1, v, st1, le1, hR1, r1, hp1⟩
    refine ⟨L1, fr, st1, hR1, hF.mono le1, RP.imp (RP.bind (R' := RVs X) hp1) ?_⟩
    rintro xs H2 ⟨L2, vs, st2, le2, hR2, r2, hp2⟩
    exact RP.here (R := RVs X) hp2 hR2 (.cons (r1.mono le2) r2))⟩
theorem evEs_append (G : Gl) : ∀ (as bs : List CE) (fr : Frame) (st : Store), evEs G (as ++ bs) fr st = (evEs G as fr st).bind fun vs st1 => (evEs G bs fr st1).bind fun ws st2 => .ok (vs ++ ws) st2
  | [], bs, fr, st => by
    show evEs G bs fr st = (Res.ok [] st).bind _
    simp only [Res.bind, List.nil_append]
    cases evEs G bs fr st <;> rfl
  | a :: as, bs, fr, st => by
    show (evE G a fr st).bind (fun v st1 => (evEs G (as ++ bs) fr st1).bind fun vs st2 => .ok (v :: vs) st2) = ((evE G a fr st).bind fun v st1 => (evEs G as fr st1).bind fun vs st2 => .ok (v :: vs) st2).bind _
    rw [Res.bind_assoc]
    congr 1
    funext v st1
    rw [evEs_append G as bs fr st1, Res.bind_assoc, Res.bind_assoc]
    congr 1
    funext vs st2
    simp only [Res.bind]
    cases evEs G bs fr st2 <;> rfl
/-! ### a def called -/
theorem sp_of {cf : CFun} {i : Nat} {L : Lg} {H : Hp} {st : Store} {args : List PV} {xs : List V} {W : WX} {σ : L2.St} {Q : V → Hp → Prop} (hl : xs.length = cf.np) (hR : Rel X L H st) (r : RVs X L args xs) (hp : RP X L (RV X) W σ (callN E.T n i args st) Q) :
    spF X (callN E.T n i) cf.np xs H Q (WE W σ) := by
  refine ⟨hl, L, args, st, hR, r, ?_⟩
  cases e : callN E.T n i args st with
  | ok v st1 => rw [e] at hp; exact hp
  | exc c ks vs st1 => rw [e] at hp; exact hp
  | stuck => rw [e] at hp; exact hp
theorem run_any {W : WX} (tk : Takes C W) (c : CxOk X E n C) {i : Nat} {D : DefW} {cf : CFun} (hD : E.defs[i]? = some D) (hcf : E.T.fns[i]? = some cf) {pins : List (Addr × Obj)} {σ : L2.St} {H : Hp} {s : Shared} {Q : VK} {args : Args} {us : List Value} {xs : List V}
    (I : Inv C pins σ H s) (hb : BindsTo s D.fd args (D.ps.zip us)) (r : Vals xs us) (h : spF X (callN E.T n i) cf.np xs H Q (WE W σ)) : wpAny (model C.prog C.w) C.A (call (.ref D.fA) args.pos args.kw) (EP C pins σ Q) C.xe s := by
  have F := c.fns i D cf hD hcf
  refine wpAny_call (codeAny_mono (F.run C.A C.stack s H args us xs Q (WE W σ) (c.room.mono (by omega)) I.env0 hb r h) fun r s' hq => ?_)
  cases r with
  | error e => exact passAt tk σ pins H s e s' I hq
  | ok fl =>
    cases fl with
    | ret u => exact I.after hq
    | next => exact False.elim hq
    | brk => exact False.elim hq
    | cont => exact False.elim hq
/-- f(e, .., k = v, ..) -/
theorem per_callKw {i : Nat} {x : Str} {p : Pos} {kws : List Keyword} {ks : List Str} {cws : List CE} {D : DefW} {dv : List PV} (c : CxOk X E n C) (hg : L2.Gl C x) (hx : E.globs.lookup x = some (.fn i)) (hdb : (x == ("__debug__" : Str)) = false)
    (hD : E.defs[i]? = some D) (hb : bOk D.ps (e :: es).length ks D.dvs.length = true) (hdv : ∀ L, RVs X L dv D.dvs) (hkl : cws.length = ks.length)
    (hs : (e :: es).all noStar = true) (ha : PAr X J C (e :: es) (evEs (Gn E n xn) ces)) (hk : PKr X J C kws (evEs (Gn E n xn) cws)) (hcl : ces.length = (e :: es).length)
    (hall : (backToKw pos (keywordEach kws C.env)).all (·.1.isSome) = true) (hks : (backToKw pos (keywordEach kws C.env)).filterMap (·.1) = ks) (hnone : (backToKw pos (keywordEach kws C.env)).any (·.1.isNone) = false) :
    PEr X J C (.Call (.Name x p) (e :: es) kws pos) (evE (Gn E n xn) (.callB i (ces ++ cws) (codes D.ps (e :: es).length ks D.dvs.length) dv)) := fun W tk => by
  obtain ⟨D', hD', hm⟩ := c.en.fn x i hx
  rw [hD] at hD'
  cases hD'
  obtain ⟨cf, hcf, ok, fu⟩ := c.en.df i D hD
  have hs' : noStar e = true ∧ es.all noStar = true := by simpa using hs
  have hkeep : PySem.W.keepIn C.K (.ref D.fA) = true := by rw [c.K]; exact ok.F.kp
  refine ⟨fun pins s σ H Q I h => ?_⟩
  obtain ⟨L, fr, st, hR, hF, hp⟩ := h
  refine wpAny_Call_Name_kw (ld_glob I hg hm ?_ hdb)
  simp only [evE, evEs_append, Res.bind_assoc] at hp
  refine PySem.W.callWith_KW (h₀ := C.base) I.ok.mod.kin hkeep hall (thn ((ha W tk).run pos pins s σ H _ I ⟨L, fr, st, hR, hF, RP.bindE (R' := RVs X) hp⟩) fun us s1 hh => ?_) (by rw [plain_args hs pos C.env, hnone]; rfl) (star_of hs'.1 _ _)
  obtain ⟨vs, H1, I1, r, L1, a1, st1, ea1, le1, hR1, ra, hp1⟩ := hh
  refine thn ((hk W tk).run pos pins s1 σ H1 _ I1 ⟨L1, fr, st1, hR1, hF.mono le1, RP.bindE (R' := RVs X) hp1⟩) fun ws s2 hh => ?_
  obtain ⟨zs, H2, I2, rz, L2, a2, st2, ea2, le2, hR2, ra2, hp2⟩ := hh
  refine ⟨I2.kIn, ?_⟩
  rw [hks]
  simp only [Res.bind] at hp2
  cases e1 : omap (fun i => (a1 ++ a2 ++ dv)[i]?) (codes D.ps (e :: es).length ks D.dvs.length) with
  | none => rw [e1] at hp2; exact hp2.elim
  | some as =>
    rw [e1] at hp2
    have hlen : us.length = (e :: es).length ∧ ws.length = ks.length := by
      exact ⟨by rw [← r.length, ← ra.length, evEs_len ea1, hcl], by rw [← rz.length, ← ra2.length, evEs_len ea2, hkl]⟩
    obtain ⟨its, ri, hbt⟩ := bind_any ok.F ok.pl hb
    have hb2 := hbt s2 us ws (by rw [← c.K]; exact I2.kIn) hlen.1 hlen.2
    have rr : RVs X L2 as (argsBy .non (codes D.ps (e :: es).length ks D.dvs.length) (vs ++ zs ++ D.dvs)) := rvs_by (((ra.mono le2).append ra2).append (hdv _)) e1
    have rv : Vals (vs ++ zs ++ D.dvs) (us ++ ws ++ its) := (r.append rz).append ri
    exact run_any tk c hD hcf I2 hb2 (vals_by rv _) (sp_of (cf := cf) (by rw [← rr.length, omap_len e1, codes_len hb, ok.np]) hR2 rr hp2)
theorem omap_range {α : Type} {vs dv : List α} {m : Nat} (h : vs.length = m) : omap (fun i => (vs ++ dv)[i]?) (List.range m) = some vs := by
  subst h
  have key : ∀ (k : Nat) (is : List Nat) (ws : List α), is.length = ws.length → (∀ (j : Nat), j < ws.length → ∃ i, is[j]? = some i ∧ (vs ++ dv)[i]? = ws[j]?) → omap (fun i => (vs ++ dv)[i]?) is = some ws := by
    intro _ is
    induction is with
    | nil => intro ws hl _; cases ws with
      | nil => rfl
      | cons => simp at hl
    | cons i is ih => intro ws hl h; cases ws with
      | nil => simp at hl
      | cons w ws =>
        simp only [omap]
        obtain ⟨i', e1, e2⟩ := h 0 (by simp)
        simp only [List.getElem?_cons_zero, Option.some.injEq] at e1 e2
        subst e1
        rw [e2]
        simp only
        rw [ih ws (by simpa using hl) fun j hj => by
          obtain ⟨i', q1, q2⟩ := h (j + 1) (by simp; omega)
          exact ⟨i', by simpa using q1, by simpa using q2⟩]
  refine key 0 _ _ (by simp) fun j hj => ⟨j, by rw [List.getElem?_range hj], ?_⟩
  rw [List.getElem?_append_left hj]
theorem callB_full {G : Gl} {i m : Nat} {dv : List PV} (h : ces.length = m) : evE G (.callB i ces (List.range m) dv) = evE G (.call i ces) := by
  funext fr st
  simp only [evE]
  cases e : evEs G ces fr st with
  | stuck => rfl
  | exc _ _ _ _ => rfl
  | ok vs st1 =>
    simp only [Res.bind]
    rw [omap_range ((evEs_len e).trans h)]
    rfl
/-- f(e, ..), every parameter written -/
theorem per_call {i : Nat} {x : Str} {p : Pos} {D : DefW} {dv : List PV} (c : CxOk X E n C) (hg : L2.Gl C x) (hx : E.globs.lookup x = some (.fn i)) (hdb : (x == ("__debug__" : Str)) = false)
    (hD : E.defs[i]? = some D) (hl : (e :: es).length = D.ps.length) (hdv : ∀ L, RVs X L dv D.dvs) (hs : (e :: es).all noStar = true) (ha : PAr X J C (e :: es) (evEs (Gn E n xn) ces)) (hcl : ces.length = (e :: es).length) :
    PEr X J C (.Call (.Name x p) (e :: es) [] pos) (evE (Gn E n xn) (.call i ces)) := by
  obtain ⟨cf, hcf, ok, fu⟩ := c.en.df i D hD
  have h := per_callKw (kws := []) (ks := []) (cws := []) (p := p) (pos := pos) c hg hx hdb hD (by rw [hl]; exact fu.b) hdv rfl hs ha pkr_nil hcl rfl rfl rfl
  rw [hl, fu.c, List.append_nil, callB_full (hcl.trans hl)] at h
  exact h
/-- f(), with defaults perhaps -/
theorem per_call0 {i : Nat} {x : Str} {p : Pos} {D : DefW} {dv : List PV} (c : CxOk X E n C) (hg : L2.Gl C x) (hx : E.globs.lookup x = some (.fn i)) (hdb : (x == ("__debug__" : Str)) = false)
    (hD : E.defs[i]? = some D) (hb : bOk D.ps 0 [] D.dvs.length = true) (hdv : ∀ L, RVs X L dv D.dvs) :
    PEr X J C (.Call (.Name x p) [] [] pos) (evE (Gn E n xn) (.callB i [] (codes D.ps 0 [] D.dvs.length) dv)) := fun W tk => by
  obtain ⟨D', hD', hm⟩ := c.en.fn x i hx
  rw [hD] at hD'
  cases hD'
  obtain ⟨cf, hcf, ok, fu⟩ := c.en.df i D hD
  have hkeep : PySem.W.keepIn C.K (.ref D.fA) = true := by rw [c.K]; exact ok.F.kp
  refine ⟨fun pins s σ H Q I h => ?_⟩
  obtain ⟨L, fr, st, hR, hF, hp⟩ := h
  refine wpAny_Call_Name_kw (ld_glob I hg hm ?_ hdb)
  refine PySem.W.callWith_K0 I.kIn hkeep ?_
  simp only [evE, evEs] at hp
  have hp2 : RP X L (RV X) W σ ((opt st (omap (fun i => dv[i]?) (codes D.ps 0 [] D.dvs.length))).bind fun as st2 => callN E.T n i as st2) Q := hp
  cases e1 : omap (fun i => dv[i]?) (codes D.ps 0 [] D.dvs.length) with
  | none => rw [e1] at hp2; exact hp2.elim
  | some as =>
    rw [e1] at hp2
    obtain ⟨its, ri, hbt⟩ := bind_any ok.F ok.pl hb
    have hb2 := hbt s [] [] (by rw [← c.K]; exact I.kIn) rfl rfl
    have rr : RVs X L as (argsBy .non (codes D.ps 0 [] D.dvs.length) D.dvs) := rvs_by (hdv _) e1
    exact run_any tk c hD hcf I hb2 (vals_by ri _) (sp_of (cf := cf) (by rw [← rr.length, omap_len e1, codes_len hb, ok.np]) hR rr hp2)
/-! ### methods -/
theorem clsOf_at {L : Lg} {H : Hp} {st : Store} (hR : Rel X L H st) {v : PV} {x : V} (r : RV X L v x) {c : Nat} (e : clsOf st v = some c) :
    ∃ a dx ks xs, x = .ref a ∧ H a = some (.ins (X.cA c) dx (prs X ks xs)) ∧ ks.length = xs.length ∧ ClsOk X c ∧ Free X c ks := by
  cases v <;> try cases e
  case ins ks vs =>
    cases r with
    | ins h1 h2 h3 h4 h5 => exact ⟨_, _, _, _, rfl, hR.sub _ _ h1, h2, h3, h4⟩
  case obj i =>
    simp only [clsOf] at e
    cases e1 : st[i]? with
    | none => rw [e1] at e; cases e
    | some cl => cases cl with
      | ins c' ks vs =>
        rw [e1] at e; cases e
        cases r with
        | obj h1 =>
          obtain ⟨dx, xs, h2, h3, h4, h5, h6⟩ := cell_ins hR h1 e1
          exact ⟨_, dx, ks, xs, rfl, h2, h3, h4, h5⟩
      | lst _ => rw [e1] at e; cases e
      | dead => rw [e1] at e; cases e
theorem prs_none {f : Nat} : ∀ {ks : List Nat} {xs : List V}, f ∉ ks → (prs X ks xs).lookup (X.aN f) = none := fun {ks xs} h => by
  rw [prs_look]
  induction ks generalizing xs with
  | nil => cases xs <;> rfl
  | cons k ks ih =>
    cases xs with
    | nil => rfl
    | cons x xs =>
      unfold lookG
      rw [if_neg (fun e => h (by rw [e]; exact List.mem_cons_self))]
      exact ih fun m => h (List.mem_cons_of_mem _ m)
theorem methOf_at {st : Store} {v : PV} {m f : Nat} (c : CxOk X E n C) (e : methOf (Gn E n xn) m v st = some f) : ∃ cl D, clsOf st v = some cl ∧ E.defs[f]? = some D ∧ Meth X.K (X.cA cl) (X.aN m) D.fA := by
  unfold methOf at e
  cases e1 : clsOf st v with
  | none => rw [e1] at e; cases e
  | some cl =>
    rw [e1] at e
    cases e2 : E.T.cls[cl]? with
    | none => simp only [Gn, e2] at e; cases e
    | some CC =>
      simp only [Gn, e2] at e
      obtain ⟨D, h1, h2⟩ := c.en.me cl CC m f e2 e
      exact ⟨cl, D, rfl, h1, h2⟩
theorem eval_meth {m : Str} {apos : Pos} {es : List PySem.Expr} {env : Env} (hn : notCall0 o = true) (hl : (apos.endLine == pos.line) = true) (hs : es.all noStar = true) (hf : es.length < 28) :
    eval (.Call (.Attribute o m apos) es [] pos) env = (do
      let ov ← eval o env
      standAt apos.atName
      let (f, first) ← holding [ov] (getMethod ov m (plainOf o env))
      callWith pos f first (backTo pos (starEach es env)) (backToKw pos (keywordEach [] env))) := by
  show (do
    let ov ← attributeBase o m env (eval o env)
    standAt apos.atName
    methodCall o m apos pos env ov (es.length + ([] : List Keyword).length) (backTo pos (starEach es env)) (backToKw pos (keywordEach [] env))) = _
  rw [base_of hn]
  congr 1
  funext ov
  congr 1
  funext _
  refine mcall_line ?_ hl
  exact few_of hs hf pos env
/-- o.m(e, ..) -/
theorem per_meth {m : Nat} {apos : Pos} (c : CxOk X E n C) (hn : notCall0 o = true) (hl : (apos.endLine == pos.line) = true) (hs : (e :: es).all noStar = true) (hf : (e :: es).length < 28) (ho : PEr X J C o (evE (Gn E n xn) co)) (ha : PAr X J C (e :: es) (evEs (Gn E n xn) ces)) :
    PEr X J C (.Call (.Attribute o (X.aN m) apos) (e :: es) [] pos) (evE (Gn E n xn) (.meth m co ces)) := fun W tk => by
  have hs' : noStar e = true ∧ es.all noStar = true := by simpa using hs
  refine ⟨fun pins s σ H Q I h => ?_⟩
  obtain ⟨L, fr, st, hR, hF, hp⟩ := h
  simp only [evE] at hp
  refine PySem.W.methodCall_KW (pl := plainOf o C.env) (thn ((ho W tk).run pins s σ H _ I ⟨L, fr, st, hR, hF, RP.bind hp⟩) fun u s1 hh => ?_) (eval_meth hn hl hs hf)
  obtain ⟨x, H1, I1, rx, L1, v, st1, le1, hR1, r1, hp1⟩ := hh
  cases e1 : methOf (Gn E n xn) m v st1 with
  | none => rw [e1] at hp1; exact hp1.elim
  | some f =>
    rw [e1] at hp1
    obtain ⟨cl, D, h1, hD, hM⟩ := methOf_at c e1
    obtain ⟨cf, hcf, ok, fu⟩ := c.en.df f D hD
    obtain ⟨a, dx, ks, xs, rfl, h2, h3, h4, h5⟩ := clsOf_at hR1 r1 h1
    obtain rfl : u = Value.ref a := rx
    have hkm : m ∉ ks := fun hm => by
      have z : PySem.W.findIn X.K (.ref (X.cA cl)) (X.aN m) = some none := h5 m hm
      rw [hM.at_] at z
      cases z
    have hM' : Meth C.K (X.cA cl) (X.aN m) D.fA := by rw [c.K]; exact hM
    refine getmeth_ok I1 h2 (by rw [c.K]; exact h4.cl) hM' (prs_none hkm) ?_
    refine PySem.W.callWith_K (first := [.ref a]) (h₀ := C.base) I1.ok.mod.kin hM'.kp (thn ((ha W tk).run pos pins s1 σ H1 _ I1 ⟨L1, fr, st1, hR1, hF.mono le1, RP.bind (R' := RVs X) hp1⟩) fun us s2 hh => ?_) (star_of hs'.1 _ _) (plain_args hs'.2 _ _)
    obtain ⟨vs, H2, I2, r2, L2, a2, st2, le2, hR2, ra, hp2⟩ := hh
    refine ⟨I2.kIn, ?_⟩
    have rr : RVs X L2 (v :: a2) (.ref a :: vs) := .cons (r1.mono le2) ra
    have hlen : (V.ref a :: vs).length = cf.np := by
      by_cases z : (V.ref a :: vs).length = cf.np
      · exact z
      · exfalso
        have z2 : ∀ k, callN E.T k f (v :: a2) st2 = .stuck := fun k => by
          cases k with
          | zero => rfl
          | succ k =>
            show (match E.T.fns[f]? with
              | some fd => runF _ fd (v :: a2) st2
              | none => .stuck) = .stuck
            rw [hcf]
            show runF _ cf (v :: a2) st2 = .stuck
            unfold runF
            rw [if_neg (by rw [rr.length]; exact z)]
        have hp3 : RP X L2 (RV X) W σ (callN E.T n f (v :: a2) st2) Q := hp2
        rw [z2] at hp3
        exact hp3.elim
    have hb := binds_full ok fu s2 (.ref a :: us) (by rw [← c.K]; exact I2.kIn) (by
      rw [List.append_nil, ← ok.np, ← hlen]
      simp [r2.length])
    rw [List.append_nil] at hb
    exact run_any tk c hD hcf (us := .ref a :: us) (args := ⟨.ref a :: us, []⟩) I2 hb (.cons (show RelV (.ref a) (.ref a) from rfl) r2) (sp_of (cf := cf) hlen hR2 rr hp2)
/-- o.m() -/
theorem per_meth0 {m : Nat} {apos : Pos} (c : CxOk X E n C) (hn : notCall0 o = true) (hl : (apos.endLine == pos.line) = true) (ho : PEr X J C o (evE (Gn E n xn) co)) :
    PEr X J C (.Call (.Attribute o (X.aN m) apos) [] [] pos) (evE (Gn E n xn) (.meth m co [])) := fun W tk => by
  refine ⟨fun pins s σ H Q I h => ?_⟩
  obtain ⟨L, fr, st, hR, hF, hp⟩ := h
  simp only [evE] at hp
  refine PySem.W.methodCall_KW (pl := plainOf o C.env) (thn ((ho W tk).run pins s σ H _ I ⟨L, fr, st, hR, hF, RP.bind hp⟩) fun u s1 hh => ?_) (eval_meth hn hl rfl (by simp))
  obtain ⟨x, H1, I1, rx, L1, v, st1, le1, hR1, r1, hp1⟩ := hh
  cases e1 : methOf (Gn E n xn) m v st1 with
  | none => rw [e1] at hp1; exact hp1.elim
  | some f =>
    rw [e1] at hp1
    obtain ⟨cl, D, h1, hD, hM⟩ := methOf_at c e1
    obtain ⟨cf, hcf, ok, fu⟩ := c.en.df f D hD
    obtain ⟨a, dx, ks, xs, rfl, h2, h3, h4, h5⟩ := clsOf_at hR1 r1 h1
    obtain rfl : u = Value.ref a := rx
    have hkm : m ∉ ks := fun hm => by
      have z : PySem.W.findIn X.K (.ref (X.cA cl)) (X.aN m) = some none := h5 m hm
      rw [hM.at_] at z
      cases z
    have hM' : Meth C.K (X.cA cl) (X.aN m) D.fA := by rw [c.K]; exact hM
    refine getmeth_ok I1 h2 (by rw [c.K]; exact h4.cl) hM' (prs_none hkm) ?_
    refine PySem.W.callWith_K0 (first := [.ref a]) I1.kIn hM'.kp ?_
    have hp2 : RP X L1 (RV X) W σ (callN E.T n f [v] st1) Q := hp1
    have rr : RVs X L1 [v] [.ref a] := .cons r1 .nil
    have hlen : ([V.ref a]).length = cf.np := by
      by_cases z : ([V.ref a]).length = cf.np
      · exact z
      · exfalso
        have z2 : ∀ k, callN E.T k f [v] st1 = .stuck := fun k => by
          cases k with
          | zero => rfl
          | succ k =>
            show (match E.T.fns[f]? with
              | some fd => runF _ fd [v] st1
              | none => .stuck) = .stuck
            rw [hcf]
            show runF _ cf [v] st1 = .stuck
            unfold runF
            rw [if_neg (by rw [rr.length]; exact z)]
        rw [z2] at hp2
        exact hp2.elim
    have hb := binds_full ok fu s1 [.ref a] (by rw [← c.K]; exact I1.kIn) (by
      rw [List.append_nil, ← ok.np, ← hlen]
      simp)
    rw [List.append_nil] at hb
    exact run_any tk c hD hcf (us := [.ref a]) (args := ⟨[.ref a], []⟩) I1 hb (.cons (show RelV (.ref a) (.ref a) from rfl) .nil) (sp_of (cf := cf) hlen hR1 rr hp2)
end
end Ev

set_option Elab.async false
set_option linter.all false
set_option maxRecDepth 100000
set_option maxHeartbeats 2000000
/-! Making an instance; own ==; comparisons. -/
namespace Ev
open PySem PySem.Spec PyProof.Rows L2
section
variable {X : Fx} {J : Jd} {C : Cx} {E : Ent} {n : Nat} {xn : Option (Nat × List Nat × List PV)} {e a b o : PySem.Expr} {ce ca cb co : CE} {es : List PySem.Expr} {ces : List CE} {pos : Pos}
/-- the instance that is being made, its ledger -/
theorem make_rp {L : Lg} {H : Hp} {st : Store} {W : WX} {σ : L2.St} {Q : V → Hp → Prop} {c : Nat} {CC : CCls} {f : Nat} {args : List PV} {vs : List V} {x dx : Addr} (hR : Rel X L H st) (ra : RVs X L args vs) (hC : E.T.cls[c]? = some CC) (hf : CC.init = some f) (ok : ClsOk X c)
    (hx : H x = none) (hd : H dx = none) (hne : dx ≠ x) {np : Nat} (hl : (V.ref x :: vs).length = np) (hp : RP X L (RV X) W σ (makeObj (Gn E n xn) c args st) Q) :
    spF X (callN E.T n f) np (.ref x :: vs) (upd (upd H dx (.own x)) x (.ins (X.cA c) dx [])) (fun v H2 => v = .non ∧ Q (.ref x) H2) (WE W σ) := by
  have hR1 : Rel X L (upd H dx (.own x)) st := hR.newH hd
  have hx1 : upd H dx (.own x) x = none := by rw [upd_ne (Ne.symm hne)]; exact hx
  obtain ⟨le2, hR2, e2⟩ := hR1.newC (p := x) (o := .ins (X.cA c) dx []) (c := .ins c [] []) hx1 ⟨dx, [], upd_same, rfl, ok, fun k hk => (List.not_mem_nil hk).elim, .nil⟩
  refine ⟨hl, _, .obj st.length :: args, _, hR2, .cons (.obj e2) (ra.mono le2), ?_⟩
  unfold makeObj at hp
  simp only [Gn, hC, hf] at hp
  cases e : callN E.T n f (.obj st.length :: args) (st ++ [.ins c [] []]) with
  | stuck => rw [e] at hp; exact hp.elim
  | exc ec ks us st1 =>
    rw [e] at hp
    exact fun L3 H3 cls d le3 hR3 rx => gcX_rp (R := RV X) hR (le2.trans le3) hR3 rx hp
  | ok v st1 =>
    rw [e] at hp
    intro L3 H3 y le3 hR3 rv
    cases v <;> try exact hp.elim
    cases rv
    refine ⟨rfl, ?_⟩
    cases hz : CC.frozen with
    | false =>
      rw [hz] at hp
      exact hp L3 H3 (.ref x) (le2.trans le3) hR3 (.obj (le3.m _ _ e2))
    | true =>
      rw [hz] at hp
      simp only at hp
      cases e3 : st1[st.length]? with
      | none => rw [e3] at hp; exact hp.elim
      | some cl => cases cl with
        | lst _ => rw [e3] at hp; exact hp.elim
        | dead => rw [e3] at hp; exact hp.elim
        | ins d ks us =>
          rw [e3] at hp
          simp only at hp
          by_cases hg : st1.length = st.length + 1 ∧ d = c ∧ gcOk st.length st st1 (.tup us) = true
          · rw [if_pos hg] at hp
            obtain ⟨g1, rfl, g3⟩ := hg
            have hix : L3.m[st.length]? = some x := le3.m _ _ e2
            obtain ⟨dx', xs, h1, h2, h3, h4, h5⟩ := cell_ins hR3 hix e3
            obtain ⟨c1, c2, c3, c4⟩ := gc_cut hR (le2.trans le3) hR3 g3
            have hFx : L3.F x = none := hR3.fr x (List.mem_of_getElem? hix)
            have hnx : x ∉ L3.m.take st.length := fun hm => by
              obtain ⟨i, hi, ei⟩ := List.getElem_of_mem hm
              have hi' : i < st.length := by rw [List.length_take] at hi; omega
              rw [List.getElem_take] at ei
              have hlt := (List.getElem?_eq_some_iff.mp hix).1
              have q1 : L3.m[i]'(by omega) = L3.m[st.length]'hlt := by
                rw [ei]
                exact ((List.getElem?_eq_some_iff.mp hix).2).symm
              have := (List.getElem_inj hR3.nd).mp q1
              omega
            have cut : L3.cut { F := upd L3.F x (.ins (X.cA d) dx' (prs X ks xs)), m := L3.m.take st.length, P := L3.P } st.length := ⟨fun b o q => by
              show upd L3.F x _ b = some o
              rw [upd_ne (fun z => by rw [z, hFx] at q; cases q)]
              exact q, rfl⟩
            have hRc := hR3.cut c3 c2
            have hR4 : Rel X { F := upd L3.F x (.ins (X.cA d) dx' (prs X ks xs)), m := L3.m.take st.length, P := L3.P } H3 (st1.take st.length) := by
              refine ⟨fun b u q => ?_, hRc.len, hRc.nd, fun b hb => ?_, fun b u q => ?_, fun i cl q => ?_⟩
              · by_cases hb : b = x
                · subst hb
                  have q' : upd L3.F b (.ins (X.cA d) dx' (prs X ks xs)) b = some u := q
                  rw [upd_same] at q'
                  cases q'
                  exact h1
                · have q' : upd L3.F x (.ins (X.cA d) dx' (prs X ks xs)) b = some u := q
                  rw [upd_ne hb] at q'
                  exact hR3.sub b u q'
              · show upd L3.F x _ b = none
                rw [upd_ne (fun z => hnx (by rw [← z]; exact hb))]
                exact hRc.fr b hb
              · obtain ⟨k1, k2, k3⟩ := hR3.pr b u q
                refine ⟨k1, ?_, fun hm => k3 (List.mem_of_mem_take hm)⟩
                show upd L3.F x _ b = none
                rw [upd_ne (fun z => k3 (by rw [z]; exact List.mem_of_getElem? hix))]
                exact k2
              · have hi : i < st.length := by
                  have := (List.getElem?_eq_some_iff.mp q).1
                  rw [List.length_take] at this
                  omega
                have q2 := q
                rw [List.getElem?_take_of_lt hi] at q2
                obtain ⟨b, k1, k2⟩ := hR3.cell i cl q2
                refine ⟨b, by show (L3.m.take st.length)[i]? = _; rw [List.getElem?_take_of_lt hi]; exact k1, k2.cut cut ?_⟩
                rw [List.all_eq_true] at c2
                exact c2 cl (List.mem_of_getElem? q)
            refine hp _ H3 (.ref x) ⟨fun b u q => cut.F b u (c4.F b u q), c4.m, c4.P⟩ hR4 ?_
            exact .ins (by show upd L3.F x _ x = _; rw [upd_same]) h2 h3 h4 (h5.cut cut c1)
          · rw [if_neg hg] at hp; exact hp.elim
/-- C(e, ..) at the values -/
theorem run_makeE {W : WX} (tk : Takes C W) (c : CxOk X E n C) {cl : Nat} {CC : CCls} {f : Nat} (hC : E.T.cls[cl]? = some CC) (hf : CC.init = some f) {pins : List (Addr × Obj)} {σ : L2.St} {H : Hp} {s : Shared} {Q : VK} {us : List Value} {vs : List V} {L : Lg} {st : Store} {args : List PV}
    (I : Inv C pins σ H s) (r : Vals vs us) (hR : Rel X L H st) (ra : RVs X L args vs) (hp : RP X L (RV X) W σ (makeObj (Gn E n xn) cl args st) Q) : wpAny (model C.prog C.w) C.A (call (.ref (X.cA cl)) us) (EP C pins σ Q) C.xe s := by
  obtain ⟨ok, D, hD, hM⟩ := c.en.ini cl CC f hC hf
  obtain ⟨cf, hcf, dk, fu⟩ := c.en.df f D hD
  have F := c.fns f D cf hD hcf
  have hM' : Mk C.K (X.cA cl) D.fA := by rw [c.K]; exact hM
  have hlen : (V.ref (s.heap.objs.size + 1) :: vs).length = cf.np := by
    by_cases z : (V.ref (s.heap.objs.size + 1) :: vs).length = cf.np
    · exact z
    · exfalso
      have z2 : ∀ k a st', callN E.T k f (a :: args) st' = .stuck := fun k a st' => by
        cases k with
        | zero => rfl
        | succ k =>
          show (match E.T.fns[f]? with
            | some fd => runF _ fd (a :: args) st'
            | none => .stuck) = .stuck
          rw [hcf]
          show runF _ cf (a :: args) st' = .stuck
          unfold runF
          rw [if_neg (by rw [List.length_cons, ra.length]; exact z)]
      unfold makeObj at hp
      simp only [Gn, hC, hf, z2] at hp
      exact hp.elim
  have hq := make_rp (E := E) (n := n) (xn := xn) (x := s.heap.objs.size + 1) (dx := s.heap.objs.size) hR ra hC hf ok (I.hok.fresh (Nat.le_succ _)) (I.hok.fresh (Nat.le_refl _)) (Nat.ne_of_lt (Nat.lt_succ_self _)) hlen hp
  have I2 := Inv.made (C := X.cA cl) I
  have r2 : Vals (V.ref (s.heap.objs.size + 1) :: vs) (Value.ref (s.heap.objs.size + 1) :: us) := .cons (show RelV (.ref _) (.ref _) from rfl) r
  have hb := binds_full dk fu _ (Value.ref (s.heap.objs.size + 1) :: us) (by rw [← c.K]; exact I2.kIn) (by
    rw [List.append_nil, ← dk.np, ← hlen]
    simp [r.length])
  rw [List.append_nil] at hb
  refine wpAny_call (make_map (f := D.fA) I.kIn hM'.makes hM'.init (beq_iff_eq.mp hM'.fn) (codeAny_mono (F.run _ C.stack _ _ ⟨Value.ref (s.heap.objs.size + 1) :: us, []⟩ (Value.ref (s.heap.objs.size + 1) :: us) _ _ (WE W σ) (Room.make (c.room.mono (by omega)) (X.cA cl) us [])
    (I2.env0.make (X.cA cl) us []) hb r2 hq) fun r s' hq' => ?_))
  cases r with
  | error e => exact passAt tk σ pins _ _ e s' I2 hq'
  | ok fl =>
    cases fl with
    | ret u =>
      obtain ⟨v, H', I3, rv, ev, q3⟩ := I2.after hq'
      subst ev
      exact ⟨rv, ⟨V.ref (s.heap.objs.size + 1), H', I3, rfl, q3⟩⟩
    | next => exact False.elim hq'
    | brk => exact False.elim hq'
    | cont => exact False.elim hq'
theorem per_make {cl : Nat} {x : Str} {p : Pos} {CC : CCls} {f : Nat} (c : CxOk X E n C) (hg : L2.Gl C x) (hx : E.globs.lookup x = some (.cls cl)) (hdb : (x == ("__debug__" : Str)) = false)
    (hC : E.T.cls[cl]? = some CC) (hf : CC.init = some f) (hs : (e :: es).all noStar = true) (ha : PAr X J C (e :: es) (evEs (Gn E n xn) ces)) :
    PEr X J C (.Call (.Name x p) (e :: es) [] pos) (evE (Gn E n xn) (.make cl ces)) := fun W tk => by
  have hs' : noStar e = true ∧ es.all noStar = true := by simpa using hs
  obtain ⟨ok, D, hD, hM⟩ := c.en.ini cl CC f hC hf
  have hk : PySem.W.keepIn C.K (.ref (X.cA cl)) = true := by rw [c.K]; exact hM.kp
  refine ⟨fun pins s σ H Q I h => ?_⟩
  obtain ⟨L, fr, st, hR, hF, hp⟩ := h
  simp only [evE] at hp
  refine wpAny_Call_Name_kw (ld_glob I hg (c.en.cl x cl hx).1 ?_ hdb)
  refine PySem.W.callWith_K (h₀ := C.base) I.ok.mod.kin hk (thn ((ha W tk).run pos pins s σ H _ I ⟨L, fr, st, hR, hF, RP.bind (R' := RVs X) hp⟩) fun us s1 hh => ?_) (star_of hs'.1 _ _) (plain_args hs'.2 _ _)
  obtain ⟨vs, H1, I1, r, L1, a1, st1, le1, hR1, ra, hp1⟩ := hh
  exact ⟨I1.kIn, run_makeE tk c hC hf I1 r hR1 ra hp1⟩
theorem per_make0 {cl : Nat} {x : Str} {p : Pos} {CC : CCls} {f : Nat} (c : CxOk X E n C) (hg : L2.Gl C x) (hx : E.globs.lookup x = some (.cls cl)) (hdb : (x == ("__debug__" : Str)) = false)
    (hC : E.T.cls[cl]? = some CC) (hf : CC.init = some f) : PEr X J C (.Call (.Name x p) [] [] pos) (evE (Gn E n xn) (.make cl [])) := fun W tk => by
  obtain ⟨ok, D, hD, hM⟩ := c.en.ini cl CC f hC hf
  have hk : PySem.W.keepIn C.K (.ref (X.cA cl)) = true := by rw [c.K]; exact hM.kp
  refine ⟨fun pins s σ H Q I h => ?_⟩
  obtain ⟨L, fr, st, hR, hF, hp⟩ := h
  simp only [evE, evEs, Res.bind] at hp
  refine wpAny_Call_Name_kw (ld_glob I hg (c.en.cl x cl hx).1 ?_ hdb)
  exact PySem.W.callWith_K0 I.kIn hk (run_makeE (us := []) (vs := []) tk c hC hf I .nil hR .nil hp)
/-! ### own == -/
theorem or_eqOwn {W : WX} (tk : Takes C W) (c : CxOk X E n C) {cl : Nat} {pins : List (Addr × Obj)} {s : Shared} {σ0 σ : L2.St} {H : Hp} {x y : V} {v u : Value} {Q : VK} {L : Lg} {st : Store} {pa pb : PV} (I : Inv C pins σ H s) (rx : RelV x v) (ry : RelV y u) (hR : Rel X L H st) (ra : RV X L pa x) (rb : RV X L pb y)
    (e1 : clsOf st pa = some cl) (e2 : clsOf st pb = some cl) (hp : RP X L (RV X) W σ0 (eqOwn (Gn E n xn) cl pa pb st) Q) : wpAny (model C.prog C.w) C.A (richCompare .Eq v u) (EP C pins σ Q) C.xe s := by
  unfold eqOwn at hp
  cases hC : E.T.cls[cl]? with
  | none => simp only [Gn, hC] at hp; exact hp.elim
  | some CC =>
    simp only [Gn, hC] at hp
    cases hf : CC.eq with
    | none => rw [hf] at hp; exact hp.elim
    | some f =>
      rw [hf] at hp
      simp only at hp
      obtain ⟨D, hD, h1, h2, h3⟩ := c.en.eq cl CC f hC hf
      obtain ⟨cf, hcf, dk, fu⟩ := c.en.df f D hD
      have F := c.fns f D cf hD hcf
      obtain ⟨a, dx, ks, xs, rfl, q1, _, _, _⟩ := clsOf_at hR ra e1
      obtain ⟨b, dy, ks', xs', rfl, q2, _, _, _⟩ := clsOf_at hR rb e2
      cases rx
      cases ry
      cases e : callN E.T n f [pa, pb] st with
      | stuck => rw [e] at hp; exact hp.elim
      | exc _ _ _ _ => rw [e] at hp; exact hp.elim
      | ok w st1 =>
        rw [e] at hp
        cases w <;> try exact hp.elim
        rename_i k
        obtain ⟨mA, J1, _⟩ := ins_get I.hok q1
        obtain ⟨mB, J2, _⟩ := ins_get I.hok q2
        obtain ⟨od, J1, _⟩ := J1.look
        obtain ⟨od', J2, _⟩ := J2.look
        obtain ⟨m, hF⟩ := I.fr
        have hlen : ([V.ref a, V.ref b]).length = cf.np := by
          by_cases z : ([V.ref a, V.ref b]).length = cf.np
          · exact z
          · exfalso
            have z2 : ∀ k, callN E.T k f [pa, pb] st = .stuck := fun k => by
              cases k with
              | zero => rfl
              | succ k =>
                show (match E.T.fns[f]? with
                  | some fd => runF _ fd [pa, pb] st
                  | none => .stuck) = .stuck
                rw [hcf]
                show runF _ cf [pa, pb] st = .stuck
                unfold runF
                rw [if_neg (show ¬ ([pa, pb]).length = cf.np from z)]
            rw [z2] at e
            cases e
        refine PySem.W.cmp_K (op := .Eq) (tb := .ref (X.cA cl)) (by have := c.units; omega) hF I.ok.mod.kin J1 J2.type (by rw [c.K]; exact h3) (by rw [c.K]; exact h1) (by rw [c.K]; exact h2) ?_
        have hsp : spF X (callN E.T n f) cf.np [.ref a, .ref b] H (fun v H' => v = .bl k ∧ Q (.bl k) H') (WE W σ) := by
          refine ⟨hlen, L, [pa, pb], st, hR, .cons ra (.cons rb .nil), ?_⟩
          rw [e]
          intro L' H' y le hR' rv
          cases rv
          exact ⟨rfl, hp L' H' (.bl k) le hR' (.bl k)⟩
        have hb := binds_full dk fu s [.ref a, .ref b] (by rw [← c.K]; exact I.kIn) (by rw [List.append_nil, ← dk.np, ← hlen]; rfl)
        rw [List.append_nil] at hb
        have hr := run_any tk c hD hcf (us := [.ref a, .ref b]) (args := ⟨[.ref a, .ref b], []⟩) I hb (.cons (show RelV (.ref a) (.ref a) from rfl) (.cons (show RelV (.ref b) (.ref b) from rfl) .nil)) hsp
        refine wpAny_mono hr (fun w s' hh => ?_) fun _ _ z => z
        obtain ⟨v2, H', I', rv, ev, q⟩ := hh
        subst ev
        cases rv
        exact ⟨.bl k, H', I', rfl, q⟩
end
end Ev

set_option Elab.async false
set_option linter.all false
set_option maxRecDepth 100000
set_option maxHeartbeats 2000000
/-! Own exception classes: their __init__, raise. -/
namespace Ev
open PySem PySem.Spec PyProof.Rows L2
section
variable {C : Cx} {e : PySem.Expr} {es : List PySem.Expr} {ta : TA} {pos p1 p2 : Pos}
/-- a class whose __init__ is ValueError's, read off the class -/
structure BaseIni (K : PySem.W.Frag) (B : Addr) : Prop where
  sp : PySem.W.specialIn K (.ref B) "__getattribute__" = some (some (.builtin "type.__getattribute__"))
  rd : PySem.W.readsIn K B (.type "type") = true
  fc : PySem.W.findCls K (.ref B) (.type "type") "__init__" = some (.val (.builtin "ValueError.__init__"))
/-- B.__init__(self, text) -/
theorem pe_baseini {x : Str} {B : Addr} (hg : L2.Gl C x) (hm : C.mg x = some (.ref B)) (hB : BaseIni C.K B) (hdb : (x == ("__debug__" : Str)) = false) (hl : (p2.endLine == pos.line) = true) (hs : (e :: es).all noStar = true) (hf : (e :: es).length < 28) (ha : PA C (e :: es) ta) :
    PE C (.Call (.Attribute (.Name x p1) "__init__" p2) (e :: es) [] pos) (tVeI C.K ta) := by
  have hs' : noStar e = true ∧ es.all noStar = true := by simpa using hs
  refine ⟨fun pins s σ H Q I h => ?_⟩
  refine PySem.W.methodCall_KW (pl := plainOf (.Name x p1) C.env) (ld_glob I hg hm ?_ hdb) (eval_meth rfl hl hs hf)
  refine PySem.W.method_cls I.kIn hB.sp (PySem.W.cls_value I.kIn hB.rd hB.fc (by decide +kernel) ?_)
  show wpAny _ _ (callWith pos (Value.builtin "ValueError.__init__") [] (backTo pos (starEach (e :: es) C.env)) []) _ _ _
  refine PyProof.Rows.callWith_method1 (thn (ha.run pos pins _ σ H _ (I.tok _) h) fun us s1 ⟨vs, H1, I1, r1, a, D, ws, ev, hl, T, ea, q⟩ => ?_) (star_of hs'.1 _ _) (plain_args hs'.2 _ _)
  subst ev
  cases r1 with
  | @cons _ u0 _ ur ra rw' =>
    obtain rfl : u0 = Value.ref a := ra
    have hlen : ur.length ≤ sizeLine := by
      rw [← Paired.length rw', sizeLine_eq]
      omega
    exact oinit_ok T I1 ea hlen fun s' J => ⟨.non, H1, J, rfl, q⟩
/-! ### the stores -/
/-- the slots' values -/
def SV (σ : L2.St) : List (Str × Nat) → List V → Prop
  | [], [] => True
  | (_, i) :: r, y :: ys => σ[i]? = some (some y) ∧ SV σ r ys
  | _, _ => False
def runH : List (Str × V) → Hp → Addr → List (Str × V) → Hp
  | [], H, _, _ => H
  | p :: r, H, d, fl => runH r (upd H d (exd d (p :: fl))) d (p :: fl)
def endH (l : List (Str × V)) (H : Hp) (a d B : Addr) : Hp := match l with
  | [] => H
  | p :: r => runH r (upd (upd H d (exd d [p])) a (exo a B (some d))) d [p]
def namesZip (fs : List (Str × Nat)) (ys : List V) : List (Str × V) := (fs.map (·.1)).zip ys
/-- self.f = x, .. : self the name of slot 0 -/
def StoresOk (C : Cx) (self : Str) (B : Addr) : List (Str × Nat) → List Stmt → Prop
  | [], [] => True
  | (f, i) :: fs, st :: sts => (∃ x q1 q2 q3 q4, st = .Assign [.Attribute (.Name self q1) f q2] (.Name x q3) q4 ∧ C.N[i]? = some x ∧ Vis C.env.scope x ∧ (x == ("__debug__" : Str)) = false ∧ (x == ("__classdict__" : Str)) = false ∧
      PySem.W.findIn C.K (.ref B) f = some none) ∧ StoresOk C self B fs sts
  | _, _ => False
structure SelfOk (C : Cx) (me : Str) : Prop where
  n : C.N[0]? = some me
  v : Vis C.env.scope me
  d : (me == ("__debug__" : Str)) = false
  c : (me == ("__classdict__" : Str)) = false
theorem stores_in {self : Str} {B : Addr} (so : SelfOk C self) (T : OexC C.K B) : ∀ {fs : List (Str × Nat)} {sts : List Stmt}, StoresOk C self B fs sts →
    PSs C sts (fun D σ H => ∃ a d fl ys, σ[0]? = some (some (.ref a)) ∧ SV σ fs ys ∧ H a = some (exo a B (some d)) ∧ H d = some (exd d fl) ∧ d ≠ a ∧ fl.length + fs.length ≤ 900 ∧ D.nx σ (runH (namesZip fs ys) H d fl))
  | [], [], _ => PSs.imp pss_nil fun D σ H h => by
    obtain ⟨a, d, fl, ys, h1, h2, h3, h4, h5, h6, h7⟩ := h
    exact h7
  | (f, i) :: fs, st :: sts, ⟨⟨x, q1, q2, q3, q4, est, hx, hv, hd, hc, hno⟩, h⟩ => by
    subst est
    exact PSs.imp (pss_cons (ps_ost (pe_var so.n so.v so.d so.c) (pe_var hx hv hd hc)) (stores_in so T h)) fun D σ H hh => by
      obtain ⟨a, d, fl, ys, h1, h2, h3, h4, h5, h6, h7⟩ := hh
      match ys, h2, h7 with
      | [], h2, _ => exact h2.elim
      | y :: ys, h2, h7 =>
        refine ⟨y, h2.1, .ref a, h1, a, B, rfl, T, hno, .inr ⟨d, fl, h3, h4, by simp only [List.length_cons] at h6; omega, ?_⟩⟩
        refine ⟨a, d, (f, y) :: fl, ys, h1, h2.2, by rw [upd_ne (Ne.symm h5)]; exact h3, upd_same, h5, by simp only [List.length_cons] at h6 ⊢; omega, h7⟩
theorem stores_all {self : Str} {B : Addr} (so : SelfOk C self) (T : OexC C.K B) {fs : List (Str × Nat)} {sts : List Stmt} (h : StoresOk C self B fs sts) (hz : fs.length ≤ 800) :
    PSs C sts (fun D σ H => ∃ a ys, σ[0]? = some (some (.ref a)) ∧ SV σ fs ys ∧ H a = some (exo a B none) ∧ ∀ d, (fs ≠ [] → H d = none ∧ d ≠ a) → D.nx σ (endH (namesZip fs ys) H a d B)) := by
  match fs, sts, h with
  | [], [], _ =>
    refine PSs.imp pss_nil fun D σ H h => ?_
    obtain ⟨a, ys, h1, h2, h3, h4⟩ := h
    exact h4 0 fun z => (z rfl).elim
  | (f, i) :: fs, st :: sts, ⟨⟨x, q1, q2, q3, q4, est, hx, hv, hd, hc, hno⟩, h⟩ =>
    subst est
    refine PSs.imp (pss_cons (ps_ost (pe_var so.n so.v so.d so.c) (pe_var hx hv hd hc)) (stores_in so T h)) fun D σ H hh => ?_
    obtain ⟨a, ys, h1, h2, h3, h4⟩ := hh
    match ys, h2, h4 with
    | [], h2, _ => exact h2.elim
    | y :: ys, h2, h4 =>
      refine ⟨y, h2.1, .ref a, h1, a, B, rfl, T, hno, .inl ⟨h3, fun d hd hne => ?_⟩⟩
      refine ⟨a, d, [(f, y)], ys, h1, h2.2, upd_same, by rw [upd_ne hne]; exact upd_same, hne, by simp only [List.length_cons, List.length_nil] at hz ⊢; omega, h4 d fun _ => ⟨hd, hne⟩⟩
/-! ### the heap behind them -/
theorem runH_at : ∀ (l : List (Str × V)) (H : Hp) (d : Addr) (fl : List (Str × V)), H d = some (exd d fl) → runH l H d fl d = some (exd d (l.reverse ++ fl))
  | [], H, d, fl, h => h
  | p :: r, H, d, fl, h => by
    show runH r (upd H d (exd d (p :: fl))) d (p :: fl) d = _
    rw [runH_at r _ d (p :: fl) upd_same]
    simp
theorem runH_ne : ∀ (l : List (Str × V)) (H : Hp) (d : Addr) (fl : List (Str × V)) (b : Addr), b ≠ d → runH l H d fl b = H b
  | [], H, d, fl, b, h => rfl
  | p :: r, H, d, fl, b, h => by
    show runH r (upd H d (exd d (p :: fl))) d (p :: fl) b = _
    rw [runH_ne r _ d (p :: fl) b h, upd_ne h]
theorem endH_at {l : List (Str × V)} {H : Hp} {a d B : Addr} (hl : l ≠ []) (hne : d ≠ a) : endH l H a d B a = some (exo a B (some d)) ∧ endH l H a d B d = some (exd d l.reverse) ∧ ∀ b, b ≠ a → b ≠ d → endH l H a d B b = H b := by
  match l, hl with
  | p :: r, _ =>
    refine ⟨?_, ?_, fun b h1 h2 => ?_⟩
    · show runH r _ d [p] a = _
      rw [runH_ne r _ d [p] a (Ne.symm hne), upd_same]
    · show runH r _ d [p] d = _
      rw [runH_at r _ d [p] (by rw [upd_ne hne]; exact upd_same)]
      simp
    · show runH r _ d [p] b = _
      rw [runH_ne r _ d [p] b h2, upd_ne h1, upd_ne h2]
end
/-! ### an exception without a dict is let go -/
section
variable {X : Cx} {pins : List (Addr × Obj)} {σ : L2.St} {H1 H2 : Hp} {Q : XK}
theorem mk_endN {hp hp2 h2 : Heap} {g1 g2 : Array GenState} {d1 d2 : Drawn} {t1 t2 : Nat} {os1 os2 : OsState} {a C : Addr} (T : Raises X (.ref C)) (I1 : Inv X pins σ H1 ⟨hp, g1, d1, t1, os1⟩)
    (ha : hp.objs.size ≤ a) (k : ∀ b o, hp.get? b = some o → hp2.get? b = some o) (un : Un (frs X.stack) [] (upd H1 a (exo a C none)) H2 hp2 h2) (hok : HOk X.prog X.w H2 h2) (ho : os2 = os1) (hb : AllBare g2)
    (ea : H2 a = some (exo a C none)) (q : Q (.ref C) none (del H2 a)) : MkP X pins σ Q (.ref a) ⟨h2, g2, d2, t2, os2⟩ := by
  obtain ⟨t0, hoe⟩ := exo_at hok ea
  have hn : H1 a = none := I1.hok.fresh ha
  obtain ⟨G, g1', g2'⟩ := restrict h2 fun b => decide (b ≠ a)
  have gk : ∀ b, b ≠ a → G.get? b = h2.get? b := fun b hb => g1' b (decide_eq_true hb)
  have ge : G.get? a = none := g2' a (by simp)
  have nha : ∀ {b : Addr} {o : Obj}, hp.get? b = some o → b ≠ a := fun {b o} z => Nat.ne_of_lt (Nat.lt_of_lt_of_le (Heap.lt_size z) ha)
  have up : ∀ {b : Addr}, b ≠ a → H1 b = none → upd H1 a (exo a C none) b = none := fun {b} hb n => by rw [upd_ne hb]; exact n
  have U : Un (frs X.stack) [] H1 (del H2 a) hp G := {
    keep := fun b o z n hf hx => by
      rw [gk b (nha z)]
      exact un.keep b o (k b o z) (up (nha z) n) hf hx
    slot := fun b o z n hf hx => by
      rw [gk b (nha z)]
      exact un.slot b o (k b o z) (up (nha z) n) hf hx
    free := fun b o z n hx => by
      rw [del_ne (nha z)]
      exact un.free b o (k b o z) (up (nha z) n) hx
    there := fun b o z hx => by
      rw [gk b (nha z)]
      exact un.there b o (k b o z) hx
    tups := fun b xs z => by
      rw [del_ne (ne_of_none z hn)]
      exact un.tups b xs (by rw [upd_ne (ne_of_none z hn)]; exact z)
    frzs := fun b o v z => by
      rw [del_ne (ne_of_none z hn)]
      exact un.frzs b o v (by rw [upd_ne (ne_of_none z hn)]; exact z)
    tbls := fun b ps z => by
      rw [del_ne (ne_of_none z hn)]
      exact un.tbls b ps (by rw [upd_ne (ne_of_none z hn)]; exact z) }
  have hok3 : HOk X.prog X.w (del H2 a) G := fun b o z => by
    have hba : b ≠ a := fun e => by
      rw [e, del_same] at z
      cases z
    rw [del_ne hba] at z
    have noa : ∀ {c : Addr}, H2 c = some (.own b) → c ≠ a := fun {c} hc => at_ne ea hc exo_own
    exact (hok b o z).stay (fun c v hc y => by
        have hca : c ≠ a := by
          rcases hc with hc | hc
          · rw [hc]
            exact hba
          · exact noa hc
        rw [gk c hca]
        exact y)
      (fun c hc => by rw [del_ne (noa hc)]; exact hc) (fun c xs hc => by rw [del_ne (at_ne ea hc exo_tup)]; exact hc)
  have J : Inv X pins σ (del H2 a) ⟨G, g2, d2, t2, os2⟩ := I1.call' (ch := []) ho U hok3 hb (fun b z => absurd z (by simp))
  have kG : ∀ b o, G.get? b = some o → h2.get? b = some o := fun b o z => by
    by_cases hba : b = a
    · rw [hba, ge] at z
      cases z
    · exact (gk b hba).symm.trans z
  exact ⟨a, _, _, ⟨G, g2, d2, t2, os2⟩, _, .ref C, none, rfl, J, kG, ge, hoe, ⟨rfl, rfl⟩, rfl, rfl, del_same, rfl, hb, T, q⟩
end
end Ev

set_option Elab.async false
set_option linter.all false
set_option maxRecDepth 100000
set_option maxHeartbeats 2000000
/-! Own exception classes: made, raised. -/
namespace Ev
open PySem PySem.Spec PyProof.Rows L2
/-- the fields' names, the slots of their parameters -/
def fld2 (X : Fx) (fs : List (Nat × Nat)) : List (Str × Nat) := fs.map fun p => (X.aN p.1, p.2 + 1)
/-- the fields' values -/
def SVw (ws : List V) : List (Nat × Nat) → List V → Prop
  | [], [] => True
  | p :: r, y :: ys => ws[p.2]? = some y ∧ SVw ws r ys
  | _, _ => False
/-- what stands of an own exception class -/
structure XcOk (X : Fx) (mg : Str → Option Value) (c n : Nat) (fs : List (Nat × Nat)) : Prop where
  ex : ExOk X c
  oex : OexC X.K (X.cA c)
  free : Free X c (fs.map (·.1))
  nd : (fs.map (·.1)).Nodup
  few : fs.length ≤ 800
  ini : ∃ (D : DefW) (cf : CFun) (bx me : Str) (B : Addr) (t : Str) (j : Nat) (p1 p2 p3 p4 p5 p6 : Pos) (sts : List Stmt), DefOk X.K D cf ∧ FullOk D ∧ cf.np = n + 1 ∧
    PySem.W.findIn X.K (.ref (X.cA c)) "__init__" = some (some (.ref D.fA)) ∧ PySem.W.typeIn X.K (.ref D.fA) = some (.type "function") ∧
    D.body = .Expr (.Call (.Attribute (.Name bx p1) "__init__" p2) [.Name me p3, .Constant (.str t) j p4] [] p5) p6 :: sts ∧ (p2.endLine == p5.line) = true ∧
    D.scope.names.lookup bx = some .globalImplicit ∧ mg bx = some (.ref B) ∧ BaseIni X.K B ∧ (bx == ("__debug__" : Str)) = false ∧
    ∀ C : Cx, C.N = D.N → C.env.scope = D.scope → C.K = X.K → SelfOk C me ∧ StoresOk C me (X.cA c) (fld2 X fs) sts
def spX (X : Fx) (c n : Nat) (fs : List (Nat × Nat)) : Sp := fun vs H Q E => ∃ a ws ys, vs = .ref a :: ws ∧ ws.length = n ∧ SVw ws fs ys ∧ H a = some (exo a (X.cA c) none) ∧
  ∀ d, (fs ≠ [] → H d = none ∧ d ≠ a) → Q .non (endH (namesZip (fld2 X fs) ys) H a d (X.cA c))
theorem start_at {N : List Str} {a : V} {ws : List V} {i : Nat} {y : V} (h : ws[i]? = some y) : (L2.start N (a :: ws))[i + 1]? = some (some y) := by
  unfold L2.start
  have hl := (List.getElem?_eq_some_iff.mp h).1
  rw [List.getElem?_append_left (by simp; omega)]
  simp [h]
theorem sv_of {X : Fx} {N : List Str} {a : V} {ws : List V} : ∀ {fs : List (Nat × Nat)} {ys : List V}, SVw ws fs ys → SV (L2.start N (a :: ws)) (fld2 X fs) ys
  | [], [], _ => trivial
  | p :: r, y :: ys, ⟨h1, h2⟩ => ⟨start_at h1, sv_of h2⟩
theorem fld2_nil {X : Fx} {fs : List (Nat × Nat)} : fld2 X fs ≠ [] ↔ fs ≠ [] := by
  cases fs <;> simp [fld2]
theorem ini_ok {X : Fx} {P : Program} {w : World} {mg : Str → Option Value} {base : Heap} {c n : Nat} {fs : List (Nat × Nat)} (xo : XcOk X mg c n fs) :
    ∃ D : DefW, ∃ cf : CFun, DefOk X.K D cf ∧ FullOk D ∧ PySem.W.findIn X.K (.ref (X.cA c)) "__init__" = some (some (.ref D.fA)) ∧ PySem.W.typeIn X.K (.ref D.fA) = some (.type "function") ∧ D.ps.length = n + 1 ∧
      FnOk P w X.K mg base (L2.CX P w) 1 D.fA D.fd D.ps (spX X c n fs) := by
  obtain ⟨D, cf, bx, me, B, t, j, p1, p2, p3, p4, p5, p6, sts, dk, fu, hnp, h1, h2, hb, hl, hbx, hm, hB, hdb, hst⟩ := xo.ini
  have hps : D.ps.length = n + 1 := by rw [← dk.np, hnp]
  refine ⟨D, cf, dk, fu, h1, h2, hps, ?_⟩
  refine dk.F.ok dk.S (fun vs H Q E h => ?_) fun cdv A outer s H vs Q E hr hsp => ?_
  · obtain ⟨a, ws, ys, rfl, hlen, _⟩ := h
    rw [hps, ← hlen]
    rfl
  · obtain ⟨a, ws, ys, rfl, hlen, hv, ha, hq⟩ := hsp
    obtain ⟨so, sto⟩ := hst (cxOf (L2.CX P w) P w X.K mg base D.N D.qual D.scope D.fA cdv A outer s H E) rfl rfl rfl
    have hbody := pss_cons (ps_expr (pe_baseini (C := cxOf (L2.CX P w) P w X.K mg base D.N D.qual D.scope D.fA cdv A outer s H E) (p1 := p1) (p2 := p2) (pos := p5) (e := .Name me p3) (es := [.Constant (.str t) j p4]) hbx hm hB hdb hl rfl (by simp) (pa_cons (pe_var so.n so.v so.d so.c) (pa_cons pe_str pa_nil)))
      (pos := p6)) (stores_all so xo.oex sto (by unfold fld2; rw [List.length_map]; exact xo.few))
    rw [hb]
    refine ⟨_, hbody, ?_⟩
    have h0 : (L2.start D.N (.ref a :: ws))[0]? = some (some (.ref a)) := by unfold L2.start; simp
    refine ⟨.ref a, h0, a, X.cA c, [.str t], rfl, by simp, xo.oex, ha, ?_⟩
    refine ⟨a, ys, h0, sv_of hv, ha, fun d hd => hq d fun z => hd (fld2_nil.mpr z)⟩
/-! ### the call of the class -/
section
variable {X : Fx} {C : Cx} {pins : List (Addr × Obj)} {σ : L2.St} {H : Hp} {s : Shared} {Q : XK} {c n : Nat} {fs : List (Nat × Nat)}
def xdict (fs : List (Nat × Nat)) (d : Addr) : Option Addr := match fs with
  | [] => none
  | _ => some d
def xheap (X : Fx) (fs : List (Nat × Nat)) (ys : List V) (H : Hp) (d : Addr) : Hp := match fs with
  | [] => H
  | _ => upd H d (.xd (namesZip (fld2 X fs) ys).reverse)
theorem svw_len {ws : List V} : ∀ {fs : List (Nat × Nat)} {ys : List V}, SVw ws fs ys → fs.length = ys.length
  | [], [], _ => rfl
  | _ :: _, _ :: _, ⟨_, h⟩ => by simp [svw_len h]
theorem run_exc (hK : C.K = X.K) (xo : XcOk X C.mg c n fs) (hr : Room 3 C.A) (I : Inv C pins σ H s) {us : List Value} {ws ys : List V} (r : Vals ws us) (hl : ws.length = n) (hn : n ≤ 1000) (hv : SVw ws fs ys)
    (h : ∀ d, (fs ≠ [] → H d = none) → Q (.ref (X.cA c)) (xdict fs d) (xheap X fs ys H d)) : wpAny (model C.prog C.w) C.A (call (.ref (X.cA c)) us) (MkP C pins σ Q) C.xe s := by
  obtain ⟨D, cf, dk, fu, iC, tI, hps, F1⟩ := ini_ok (P := C.prog) (w := C.w) (base := C.base) xo
  rw [← hK] at F1 iC tI
  have T : OexC C.K (X.cA c) := by rw [hK]; exact xo.oex
  obtain ⟨nm, q, N, bs, bm, sn, sub, ab, col, dd, k0, k1, k2, k3, k5, hC, hbm⟩ := T.cls
  obtain ⟨hp, g, dr, tk, os⟩ := s
  have hsz : hp.objs.size ≤ hp.objs.size + 1 := Nat.le_succ _
  have hna : H (hp.objs.size + 1) = none := I.hok.fresh hsz
  have kk : ∀ b o, hp.get? b = some o → ((hp.push (PySem.W.kdv_tup us)).push (PySem.HandSPX.excO (X.cA c) hp.objs.size)).get? b = some o := fun b o e => Heap.get?_push_of_some _ (Heap.get?_push_of_some _ e)
  have hget : ((hp.push (PySem.W.kdv_tup us)).push (PySem.HandSPX.excO (X.cA c) hp.objs.size)).get? (hp.objs.size + 1) = some (PySem.HandSPX.excO (X.cA c) hp.objs.size) := by heap_get
  have I2 : Inv C pins σ (upd H (hp.objs.size + 1) (exo (hp.objs.size + 1) (X.cA c) none)) ⟨(hp.push (PySem.W.kdv_tup us)).push (PySem.HandSPX.excO (X.cA c) hp.objs.size), g, dr, tk, os⟩ :=
    I.laid (t' := tk) (a := hp.objs.size + 1) (o := exo (hp.objs.size + 1) (X.cA c) none) (h' := (hp.push (PySem.W.kdv_tup us)).push (PySem.HandSPX.excO (X.cA c) hp.objs.size)) kk hsz (exo_ok hget)
  have r2 : Vals (V.ref (hp.objs.size + 1) :: ws) (Value.ref (hp.objs.size + 1) :: us) := .cons (show RelV (.ref _) (.ref _) from rfl) r
  have hus : us.length ≤ sizeLine := by
    rw [← Paired.length r, sizeLine_eq]
    omega
  have hbd := binds_full dk fu ⟨(hp.push (PySem.W.kdv_tup us)).push (PySem.HandSPX.excO (X.cA c) hp.objs.size), g, dr, tk, os⟩ (Value.ref (hp.objs.size + 1) :: us) (by rw [← hK]; exact I2.kIn) (by
    rw [List.append_nil, hps, ← hl, r.length]
    rfl)
  rw [List.append_nil] at hbd
  have hq : spX X c n fs (V.ref (hp.objs.size + 1) :: ws) (upd H (hp.objs.size + 1) (exo (hp.objs.size + 1) (X.cA c) none))
      (fun v H2 => v = .non ∧ ∃ d, (fs ≠ [] → H d = none ∧ d ≠ hp.objs.size + 1) ∧ H2 = endH (namesZip (fld2 X fs) ys) (upd H (hp.objs.size + 1) (exo (hp.objs.size + 1) (X.cA c) none)) (hp.objs.size + 1) d (X.cA c)) (fun _ _ _ => False) := by
    refine ⟨_, ws, ys, rfl, hl, hv, upd_same, fun d hd => ⟨rfl, d, fun z => ?_, rfl⟩⟩
    obtain ⟨h1, h2⟩ := hd z
    rw [upd_ne h2] at h1
    exact ⟨h1, h2⟩
  refine wpAny_call (PySem.HandSPX.call_own PySem.F.excBase_ValueError (fun Y => PySem.HandSPX.refsVE_contains Y bm hbm) (I.kIn _ _ hC) (PySem.W.looks_findIn I.kIn iC) (fun self => PySem.W.bind_fn I.kIn self tI) hus
    (codeAny_mono (F1.run _ C.stack _ _ ⟨Value.ref (hp.objs.size + 1) :: us, []⟩ (Value.ref (hp.objs.size + 1) :: us) _ _ (fun _ _ _ => False) (Room.make (hr.mono (by omega)) (X.cA c) us []) (I2.env0.make (X.cA c) us []) hbd r2 hq) fun r s' hq' => ?_))
  cases r with
  | error er =>
    obtain ⟨_, _, _, _, _, _, _, _, _, _, _, _, z⟩ := hq'
    exact z.elim
  | ok fl =>
    cases fl with
    | ret u =>
      obtain ⟨v, H2, os2, bare2, un2, hok2, rv, ev, d, hd, e2⟩ := hq'
      subst ev
      obtain ⟨h2, g2, d2, t2, os'⟩ := s'
      refine ⟨rv, ?_⟩
      cases fs with
      | nil =>
        have e3 : H2 = upd H (hp.objs.size + 1) (exo (hp.objs.size + 1) (X.cA c) none) := e2
        refine mk_endN (d2 := d2) (t2 := t2) (raises_own T.exC T.tyC) I hsz kk un2 hok2 os2 bare2 (by rw [e3, upd_same]) ?_
        have e4 : del H2 (hp.objs.size + 1) = H := by
          funext b
          by_cases hb : b = hp.objs.size + 1
          · rw [hb, del_same, hna]
          · rw [del_ne hb, e3, upd_ne hb]
        rw [e4]
        exact h d fun z => (z rfl).elim
      | cons p fs =>
        obtain ⟨hd1, hd2⟩ := hd (by simp)
        have hne : namesZip (fld2 X (p :: fs)) ys ≠ [] := by
          cases ys with
          | nil => exact hv.elim
          | cons y ys => simp [namesZip, fld2]
        obtain ⟨k1, k2, k3⟩ := endH_at (H := upd H (hp.objs.size + 1) (exo (hp.objs.size + 1) (X.cA c) none)) (B := X.cA c) hne hd2
        refine mk_end (d2 := d2) (t2 := t2) (raises_own T.exC T.tyC) I hsz kk un2 hok2 os2 bare2 (by rw [e2]; exact k1) (by rw [e2]; exact k2) hd1 ?_
        have e4 : upd (del H2 (hp.objs.size + 1)) d (.xd (namesZip (fld2 X (p :: fs)) ys).reverse) = xheap X (p :: fs) ys H d := by
          funext b
          by_cases hbd : b = d
          · subst hbd
            rw [upd_same]
            show _ = upd H b _ b
            rw [upd_same]
          · rw [upd_ne hbd]
            show _ = upd H d _ b
            rw [upd_ne hbd]
            by_cases hb : b = hp.objs.size + 1
            · rw [hb, del_same, hna]
            · rw [del_ne hb, e2, k3 b hb hbd, upd_ne hb]
        rw [e4]
        exact h d fun _ => hd1
    | next => exact False.elim hq'
    | brk => exact False.elim hq'
    | cont => exact False.elim hq'
end
/-! ### raise -/
theorem pick_rv {X : Fx} {L : Lg} {vs : List PV} {ws : List V} (r : RVs X L vs ws) : ∀ {fs : List (Nat × Nat)} {us : List PV}, omap (fun p : Nat × Nat => vs[p.2]?) fs = some us → ∃ ys, SVw ws fs ys ∧ RVs X L us ys
  | [], us, e => by cases e; exact ⟨[], trivial, .nil⟩
  | p :: fs, us, e => by
    simp only [omap] at e
    cases e1 : vs[p.2]? with
    | none => rw [e1] at e; cases e
    | some v =>
      rw [e1] at e
      simp only at e
      cases e2 : omap (fun p : Nat × Nat => vs[p.2]?) fs with
      | none => rw [e2] at e; cases e
      | some us' =>
        rw [e2] at e
        cases e
        obtain ⟨ys, h1, h2⟩ := pick_rv r e2
        obtain ⟨y, q1, q2⟩ := r.get e1
        exact ⟨y :: ys, ⟨q1, h1⟩, .cons q2 h2⟩
theorem look_names {X : Fx} {fs : List (Nat × Nat)} : ∀ {ys : List V} {k : Nat} {x : V}, fs.length = ys.length → (fs.map (·.1)).Nodup → lookG k (fs.map (·.1)) ys = some x → (namesZip (fld2 X fs) ys).reverse.lookup (X.aN k) = some x := by
  have key : ∀ {ys : List V} {k : Nat} {x : V}, lookG k (fs.map (·.1)) ys = some x → (X.aN k, x) ∈ namesZip (fld2 X fs) ys := by
    induction fs with
    | nil => intro ys k x e; cases ys <;> cases e
    | cons p fs ih =>
      intro ys k x e
      cases ys with
      | nil => cases e
      | cons y ys =>
        simp only [List.map_cons, lookG] at e
        by_cases h : p.1 = k
        · rw [if_pos h] at e
          cases e
          subst h
          exact List.mem_cons_self
        · rw [if_neg h] at e
          exact List.mem_cons_of_mem _ (ih e)
  have nd : ∀ {l : List (Str × V)}, (l.map (·.1)).Nodup → ∀ {f : Str} {x : V}, (f, x) ∈ l → l.lookup f = some x := by
    intro l
    induction l with
    | nil => intro _ f x h; cases h
    | cons p l ih =>
      intro hn f x h
      rw [List.map_cons, List.nodup_cons] at hn
      rcases List.mem_cons.mp h with e | h
      · subst e
        simp [List.lookup]
      · rw [List.lookup_cons]
        have : (f == p.1) = false := by
          rw [beq_eq_false_iff_ne]
          intro z
          exact hn.1 (by rw [← z]; exact List.mem_map.mpr ⟨(f, x), h, rfl⟩)
        rw [this]
        exact ih hn.2 h
  intro ys k x hl hn e
  refine nd ?_ (List.mem_reverse.mpr (key e))
  rw [List.map_reverse]
  refine (List.reverse_perm _).nodup_iff.mpr ?_
  unfold namesZip
  have e1 : (((fld2 X fs).map (·.1)).zip ys).map (·.1) = (fld2 X fs).map (·.1) := by
    rw [zip_fst, ← hl]
    unfold fld2
    rw [List.map_map]
    exact List.take_of_length_le (by simp)
  rw [e1]
  unfold fld2
  rw [List.map_map]
  have : (fun p : Nat × Nat => X.aN p.1) = X.aN ∘ (·.1) := rfl
  show (fs.map ((·.1) ∘ fun p : Nat × Nat => (X.aN p.1, p.2 + 1))).Nodup
  have e2 : ((·.1) ∘ fun p : Nat × Nat => (X.aN p.1, p.2 + 1)) = X.aN ∘ (·.1) := rfl
  rw [e2, ← List.map_map]
  exact List.Pairwise.map X.aN (fun a b h => fun z => h (X.inj _ _ z)) hn
section
variable {X : Fx} {J : Jd} {C : Cx} {E : Ent} {n : Nat} {xn : Option (Nat × List Nat × List PV)} {e : PySem.Expr} {es : List PySem.Expr} {ces : List CE} {pos : Pos}
def tRz (X : Fx) (J : Jd) (W : WX) (f : Frame → Store → Res (List PV)) (c m : Nat) (fs : List (Nat × Nat)) : L2.St → Hp → XK → Prop := fun σ H Q => TAr X J W f σ H fun ws H1 => ∃ ys, ws.length = m ∧ SVw ws fs ys ∧ ∀ d, (fs ≠ [] → H1 d = none) → Q (.ref (X.cA c)) (xdict fs d) (xheap X fs ys H1 d)
theorem rz_of {W : WX} {c : Nat} {CC : CCls} {m : Nat} {fs : List (Nat × Nat)} {D : Ends} {σ : L2.St} {H : Hp} (hC : E.T.cls[c]? = some CC) (hf : CC.exc = some (m, fs)) (xo : XcOk X C.mg c m fs)
    (h : TSr X J W (exS (Gn E n xn) (.raise c ces)) D σ H) : tRz X J W (evEs (Gn E n xn) ces) c m fs σ H fun cls d H' => W cls d σ H' := by
  obtain ⟨L, fr, st, hR, hF, hp⟩ := h
  simp only [exS] at hp
  refine ⟨L, fr, st, hR, hF, RP.imp (SR.toS (R := RVs X) hF hp) ?_⟩
  rintro ws H1 ⟨L1, vs, st1, le, hR1, r, hp1⟩
  unfold raiseOf at hp1
  simp only [Gn, hC, hf] at hp1
  by_cases hl : vs.length = m
  · rw [if_pos hl] at hp1
    cases e1 : omap (fun p : Nat × Nat => vs[p.2]?) fs with
    | none => rw [e1] at hp1; exact hp1.elim
    | some us =>
      rw [e1] at hp1
      obtain ⟨ys, h1, h2⟩ := pick_rv r e1
      refine ⟨ys, by rw [← r.length]; exact hl, h1, fun d hd => ?_⟩
      cases fs with
      | nil =>
        cases e1
        exact hp1 L1 H1 σ _ _ .rfl' hR1 (hF.mono le) ⟨rfl, [], [], fun k x z => (by cases z), xo.ex, xo.free, .inl rfl, .nil⟩
      | cons p fs =>
        obtain ⟨le2, hR2⟩ := hR1.newF (o := .xd (namesZip (fld2 X (p :: fs)) ys).reverse) (hd (by simp))
        refine hp1 _ _ σ _ _ le2 hR2 ((hF.mono le).mono le2) ⟨rfl, ys, _, fun k x z => ⟨d, rfl, by show upd L1.F d _ d = _; rw [upd_same], look_names (svw_len h1) xo.nd z⟩, xo.ex, xo.free, .inr ⟨d, _, rfl, by show upd L1.F d _ d = _; rw [upd_same]⟩, h2.mono le2⟩
  · rw [if_neg hl] at hp1; exact hp1.elim
theorem psr_raise {cl : Nat} {x : Str} {p pos' : Pos} {CC : CCls} {m : Nat} {fs : List (Nat × Nat)} (c : CxOk X E n C) (hg : L2.Gl C x) (hx : E.globs.lookup x = some (.cls cl)) (hdb : (x == ("__debug__" : Str)) = false)
    (hC : E.T.cls[cl]? = some CC) (hf : CC.exc = some (m, fs)) (xo : XcOk X C.mg cl m fs) (hm : m ≤ 1000) (hs : (e :: es).all noStar = true) (ha : PAr X J C (e :: es) (evEs (Gn E n xn) ces)) :
    PSr X J C (.Raise (some (.Call (.Name x p) (e :: es) [] pos)) none pos') (exS (Gn E n xn) (.raise cl ces)) := fun W tk => by
  have hs' : noStar e = true ∧ es.all noStar = true := by simpa using hs
  refine PS.imp (ps_raise (t := tRz X J W (evEs (Gn E n xn) ces) cl m fs) c.calm tk fun pins s σ H Q I h => ?_) fun D σ H h => rz_of (C := C) hC hf xo h
  refine wpAny_Call_Name_kw (ld_glob I hg (c.en.cl x cl hx).1 ?_ hdb)
  refine PySem.W.callWith_K (h₀ := C.base) I.ok.mod.kin (by rw [c.K]; exact xo.oex.kC) (thn ((ha W tk).run pos pins s σ H _ I h) fun us s1 hh => ?_) (star_of hs'.1 _ _) (plain_args hs'.2 _ _)
  obtain ⟨ws, H1, I1, r, ys, h1, h2, h3⟩ := hh
  exact ⟨I1.kIn, run_exc c.K xo (c.room.mono (by omega)) I1 r h1 hm h2 h3⟩
theorem psr_raise0 {cl : Nat} {x : Str} {p pos' : Pos} {CC : CCls} {fs : List (Nat × Nat)} (c : CxOk X E n C) (hg : L2.Gl C x) (hx : E.globs.lookup x = some (.cls cl)) (hdb : (x == ("__debug__" : Str)) = false)
    (hC : E.T.cls[cl]? = some CC) (hf : CC.exc = some (0, fs)) (xo : XcOk X C.mg cl 0 fs) :
    PSr X J C (.Raise (some (.Call (.Name x p) [] [] pos)) none pos') (exS (Gn E n xn) (.raise cl [])) := fun W tk => by
  refine PS.imp (ps_raise (t := tRz X J W (evEs (Gn E n xn) []) cl 0 fs) c.calm tk fun pins s σ H Q I h => ?_) fun D σ H h => rz_of (C := C) hC hf xo h
  refine wpAny_Call_Name_kw (ld_glob I hg (c.en.cl x cl hx).1 ?_ hdb)
  refine PySem.W.callWith_K0 I.kIn (by rw [c.K]; exact xo.oex.kC) ?_
  obtain ⟨L, fr, st, hR, hF, hp⟩ := h
  obtain ⟨ys, h1, h2, h3⟩ := RP.here (R := RVs X) hp hR .nil
  exact run_exc (us := []) (ws := []) c.K xo (c.room.mono (by omega)) I .nil rfl (by omega) h2 h3
/-- raise X: the class alone -/
theorem psr_dummy : True := trivial
end
end Ev

set_option Elab.async false
set_option linter.all false
set_option maxRecDepth 100000
set_option maxHeartbeats 2000000
/-! try with clauses, named and unnamed; what a suite may ask of its exception. -/
namespace Ev
open PySem PySem.Spec PyProof.Rows L2
/-- the ends of a suite whose name goes -/
def endsAt (D : Ends) (i : Nat) : Ends := { nx := fun σ' H' => D.nx (σ'.set i none) H', rt := D.rt, bk := fun σ' H' => D.bk (σ'.set i none) H', ct := fun σ' H' => D.ct (σ'.set i none) H' }
abbrev HdT := Value × Option Nat × (Addr → Value → Option Addr → TS)
def wMix (K : PySem.W.Frag) (Wout : WX) (D : Ends) : List HdT → WX
  | [] => Wout
  | (c, none, ts) :: r => fun cls d σ H => ∃ b, PySem.W.exmOne K cls c = some b ∧ (b = true → ∀ a, H a = none → ts a cls d D σ H) ∧ (b = false → wMix K Wout D r cls d σ H)
  | (c, some i, ts) :: r => fun cls d σ H => ∃ b, PySem.W.exmOne K cls c = some b ∧ (b = true → ∀ a, H a = none → ts a cls d (endsAt D i) (σ.set i (some (.ref a))) H) ∧ (b = false → wMix K Wout D r cls d σ H)
inductive MixOk (X : Cx) : List ExceptHandler → List HdT → Prop
  | nil : MixOk X [] []
  | cons {x : Str} {c : Value} {ts : Addr → Value → Option Addr → TS} {b₀ : Stmt} {suite : List Stmt} {np pos' : Pos} {hds : List ExceptHandler} {l : List HdT} (hc : Names X x c)
      (hsu : ∀ (a : Addr) (oe : Obj) (cls : Value) (d : Option Addr) (pn : List (Addr × Obj)), Zc cls d oe → (∃ vs, oe.data = .fields vs) → PSs (X.suite a ((a, oe) :: pn)) (b₀ :: suite) (ts a cls d)) (r : MixOk X hds l) :
      MixOk X (.ExceptHandler (some (.Name x np)) none (b₀ :: suite) pos' :: hds) ((c, none, ts) :: l)
  | consA {x n : Str} {i : Nat} {c : Value} {ts : Addr → Value → Option Addr → TS} {b₀ : Stmt} {suite : List Stmt} {np pos' : Pos} {hds : List ExceptHandler} {l : List HdT} (hc : Names X x c) (hi : X.N[i]? = some n) (hln : X.env.kindOf n = some .local)
      (hsu : ∀ (a : Addr) (oe : Obj) (cls : Value) (d : Option Addr) (pn : List (Addr × Obj)), Zc cls d oe → (∃ vs, oe.data = .fields vs) → PSs (X.suite a ((a, oe) :: pn)) (b₀ :: suite) (ts a cls d)) (r : MixOk X hds l) :
      MixOk X (.ExceptHandler (some (.Name x np)) (some n) (b₀ :: suite) pos' :: hds) ((c, some i, ts) :: l)
section
variable {X : Cx} {body : List Stmt} {h₀ : ExceptHandler} {hds : List ExceptHandler} {l : List HdT} {pos : Pos} {tb : WX → TS} {Wout : WX}
theorem ps_try_mix (hs : X.stack = X.env :: X.outer) (hf : X.env.frame = some X.env.locals) (hN : X.N.Nodup) (tk : Takes X Wout)
    (hb : ∀ (W : WX) (pn : List (Addr × Obj)) (xe : Value → Shared → Prop), Takes (X.tr pn xe) W → PassesOwn (model X.prog X.w) X.A X.env xe → PSs (X.tr pn xe) body (tb W))
    (hh : MixOk X (h₀ :: hds) l) : PS X (.Try body (h₀ :: hds) [] [] pos) (fun D σ H => tb (wMix X.K Wout D l) D σ H) := by
  refine ⟨fun pins s σ H D I h => ?_⟩
  have ok := I.ok
  have hfr : X.A.frames = some (X.env :: X.outer) := by rw [ok.frames, hs]
  refine wpAny_Try_except ?_
  refine wpAny_mono ((hb (wMix X.K Wout D l) (X.pn ++ pins) (fun e s₁ => wpAny (model X.prog X.w) X.A (noteFrame e X.env) (fun _ s₂ => wpAny (model X.prog X.w) X.A (setFlight e none) (fun _ s₃ =>
    wpAny (model X.prog X.w) X.A (handleBy e X.env (h₀ :: hds)) (SP X pins D) X.xe s₃) X.xe s₂) X.xe s₁) (fun u s' xx => ?_) PassesOwn.looking).run [] s σ H D (I.toTry _) h) (fun f s1 hsp => ?_) (fun e s1 he => he)
  · -- the catch
    obtain ⟨a, B, sI, pins', σ', H', cls, d, rfl, J', nb, up, sky, na, os, ag, w⟩ := xx
    have J : Inv X pins σ' H' sI := J'.ofTry ok
    have sky' : Sky B (X.env :: X.outer) a (Zc cls d) X.env.locals s'.heap := by rw [← hs]; exact sky
    show wpAny (model X.prog X.w) X.A (noteFrame (.ref a) X.env) _ _ _
    refine Sky.land Zc.steady hfr hf sky' fun h3 fl3 up3 => ?_
    have J3 : Inv X pins σ' H' { s' with heap := h3 } := J.landed nb fl3.1 (up.trans up3) os ag
    obtain ⟨oe3, vs3, he3, hz3, hd3⟩ := fl3.there
    have notFr : ∀ {h : Heap} {o : Obj} {vs : Array Value}, h.FunFrames B (X.env :: X.outer) → h.get? a = some o → o.data = .fields vs → a ∉ frs (X.env :: X.outer) := fun {h o vs} ff e dd hm => by
      obtain ⟨_, o', e', hnf⟩ := ff.mem hm
      rw [e] at e'; cases e'
      exact hnf _ dd
    have nfr := notFr fl3.2.2.1 he3 hd3
    have nL : a ≠ X.env.locals := fun z => nfr (List.mem_filterMap.mpr ⟨X.env, List.mem_cons_self, by rw [hf, z]⟩)
    have nF : a ∉ X.fs := fun hm => by
      obtain ⟨e, he, q⟩ := List.mem_filterMap.mp hm
      exact nfr (List.mem_filterMap.mpr ⟨e, List.mem_cons_of_mem _ he, q⟩)
    have S3 := J3.suite he3 hd3 na nL nF
    have LT : PySem.W.Looks (model X.prog X.w) h3 (typeOf (.ref a)) cls := fun A Q E s k q => wpAny_typeOf_ref (k _ _ he3) (by rw [hz3.1]; exact q)
    have test : ∀ {x : Str} {c : Value} {np : Pos} {Q : Value → Shared → Prop} {E : Value → Shared → Prop}, Names X x c → Q c { s' with heap := h3 } → wpAny (model X.prog X.w) (X.A.mark (some (.ref a))) (eval (.Name x np) X.env) Q E { s' with heap := h3 } := fun {x c np Q E} hc q => by
      obtain ⟨hg, hdbg, hm | ⟨hm, hv, hnn⟩⟩ := hc
      · exact ld_glob (X := X.suite a ((a, oe3) :: (X.pn ++ pins))) S3 hg hm q hdbg
      · exact ld_blt (X := X.suite a ((a, oe3) :: (X.pn ++ pins))) S3 hg hm hv q hnn hdbg
    have go : ∀ {hds' : List ExceptHandler} {l' : List HdT}, MixOk X hds' l' → wMix X.K Wout D l' cls d σ' H' →
        wpAny (model X.prog X.w) X.A (handleBy (.ref a) X.env hds') (SP X pins D) X.xe { s' with heap := h3 } := by
      intro hds' l' hk
      induction hk with
      | nil =>
        intro w
        refine wpAny_handleBy_nil ?_
        obtain ⟨k1, k2, k3, oe, vs, T, oT, ts', he, hz, hd, h1, hr⟩ := id fl3
        unfold PySem.passOn
        refine wpAny_bind (wpAny_field he hd h1 ?_)
        rw [if_neg (show ¬ ((Value.ref T == Value.none) = true) from by simp)]
        have fin : wpAny (model X.prog X.w) X.A (setFlight (.ref a) X.env.frame) (fun _ s4 => wpAny (model X.prog X.w) X.A (throw (.ref a) : Sem Flow) (SP X pins D) X.xe s4) X.xe { s' with heap := h3 } := by
          rw [hf]
          refine HandSPX.setFlight_upZ fl3 fun h4 hh4 up4 => wpAny_throw (tk _ _ ?_)
          exact ⟨a, B, sI, pins, σ', H', cls, d, rfl, J, nb, (up.trans up3).trans up4, .inr (.inr (by rw [hs]; exact hh4)), na, os, ag, w⟩
        first
          | exact wpAny_bind (wpAny_pure (wpAny_bind fin))
          | exact wpAny_bind fin
      | @cons x c ts b₀ suite np pos' hds2 l2 hc hsu r ih =>
        intro w
        obtain ⟨b, hb1, hyes, hno⟩ := w
        refine wpAny_handleBy_cons (codeAny_handlers_test ?_) (by intro q; cases q)
        have LM := PySem.W.exm_one (M := model X.prog X.w) (J3.kIn) LT hb1
        refine test hc (LM.here ?_)
        cases b with
        | true =>
          refine codeAny_handlers_suite ?_
          refine HandSPX.lands_againZ fl3 fun h4 fl4 up4 => ?_
          have J4 : Inv X pins σ' H' { s' with heap := h4 } := J.landed nb fl4.1 ((up.trans up3).trans up4) os ag
          obtain ⟨oe4, vs4, he4, hz4, hd4⟩ := fl4.there
          have S4 := J4.suite he4 hd4 na nL nF
          refine wpAny_mono ((hsu a oe4 cls d (X.pn ++ pins) hz4 ⟨_, hd4⟩).run [] _ _ H' _ S4 (hyes rfl a na)) (fun f s6 hsp => ?_) (fun _ _ z => False.elim z)
          cases f with
          | next =>
            obtain ⟨σ6, H6, S6, q6⟩ := hsp
            exact ⟨_, _, S6.unsuite ok, q6⟩
          | brk =>
            obtain ⟨σ6, H6, S6, q6⟩ := hsp
            exact ⟨_, _, S6.unsuite ok, q6⟩
          | cont =>
            obtain ⟨σ6, H6, S6, q6⟩ := hsp
            exact ⟨_, _, S6.unsuite ok, q6⟩
          | ret u =>
            obtain ⟨v6, σ6, H6, S6, r6, q6⟩ := hsp
            exact ⟨_, _, _, S6.unsuite ok, r6, q6⟩
        | false =>
          show wpAny _ X.A (handleBy (.ref a) X.env hds2) _ _ _
          exact ih (hno rfl)
      | @consA x n i c ts b₀ suite np pos' hds2 l2 hc hi hln hsu r ih =>
        intro w
        obtain ⟨b, hb1, hyes, hno⟩ := w
        have hloc : Loc X.env.scope n := .inl hln
        refine wpAny_handleBy_cons (codeAny_handlers_test ?_) (by intro q; cases q)
        have LM := PySem.W.exm_one (M := model X.prog X.w) (J3.kIn) LT hb1
        refine test hc (LM.here ?_)
        cases b with
        | true =>
          refine codeAny_handlers_suite_as ?_
          refine HandSPX.lands_againZ fl3 fun h4 fl4 up4 => ?_
          have J4 : Inv X pins σ' H' { s' with heap := h4 } := J.landed nb fl4.1 ((up.trans up3).trans up4) os ag
          obtain ⟨oe4, vs4, he4, hz4, hd4⟩ := fl4.there
          have S4 := J4.suite he4 hd4 na nL nF
          refine store_ok (X := X.suite a ((a, oe4) :: (X.pn ++ pins))) (v := .ref a) S4 hN hi hloc rfl (fun s5 S5 => ?_) (.inr hln)
          refine wpAny_mono ((hsu a oe4 cls d (X.pn ++ pins) hz4 ⟨_, hd4⟩).run [] s5 _ H' _ S5 (hyes rfl a na)) (fun f s6 hsp => ?_) (fun _ _ z => False.elim z)
          have end_ : ∀ {σ6 : L2.St} {H6 : Hp} {Q : Shared → Prop}, Inv (X.suite a ((a, oe4) :: (X.pn ++ pins))) [] σ6 H6 s6 → (∀ s7, Inv X pins (σ6.set i none) H6 s7 → Q s7) →
              wpAny (model X.prog X.w) X.A (do bindName X.env n .none; unbindBehindTheSuite X.env n pos') (fun _ s7 => Q s7) X.xe s6 := fun {σ6 H6 Q} S6 hq => gone_ok (S6.unsuite ok) hN hi hln hq
          cases f with
          | next =>
            obtain ⟨σ6, H6, S6, q6⟩ := hsp
            exact end_ S6 fun s7 J7 => ⟨_, _, J7, q6⟩
          | brk =>
            obtain ⟨σ6, H6, S6, q6⟩ := hsp
            exact end_ S6 fun s7 J7 => ⟨_, _, J7, q6⟩
          | cont =>
            obtain ⟨σ6, H6, S6, q6⟩ := hsp
            exact end_ S6 fun s7 J7 => ⟨_, _, J7, q6⟩
          | ret u =>
            obtain ⟨v6, σ6, H6, S6, r6, q6⟩ := hsp
            exact end_ S6 fun s7 J7 => ⟨_, _, _, J7, r6, q6⟩
        | false =>
          show wpAny _ X.A (handleBy (.ref a) X.env hds2) _ _ _
          exact ih (hno rfl)
    exact go hh w
  · cases f with
    | next =>
      obtain ⟨σ', H', J', q⟩ := hsp
      exact wpAny_execs_nil ⟨σ', H', J'.ofTry ok, q⟩
    | brk =>
      obtain ⟨σ', H', J', q⟩ := hsp
      exact ⟨σ', H', J'.ofTry ok, q⟩
    | cont =>
      obtain ⟨σ', H', J', q⟩ := hsp
      exact ⟨σ', H', J'.ofTry ok, q⟩
    | ret u =>
      obtain ⟨v, σ', H', J', r, q⟩ := hsp
      exact ⟨v, σ', H', J'.ofTry ok, r, q⟩
end
/-! ### in the suite -/
/-- what a suite knows: the name's slot (if it has one) holds the exception at a -/
def Jx (X : Fx) (i : Option Nat) (a : Addr) (cls : Value) (d : Option Addr) (c : Nat) (ks : List Nat) (vs : List PV) : Jd where
  p := fun L σ => (∀ k, i = some k → k < σ.length → σ[k]? = some (some (.ref a))) ∧ XR X L c ks vs cls d
  fix := i
  mono := fun h ⟨h1, h2⟩ => ⟨h1, h2.monoF h⟩
  set := fun {L σ j y} h ⟨h1, h2⟩ => ⟨fun k e hl => by
    rw [List.getElem?_set_ne (fun z => h (by rw [e, z]))]
    rw [List.length_set] at hl
    exact h1 k e hl, h2⟩
/-- a suite's context: the exception's object is pinned -/
structure InSu (C : Cx) (a : Addr) (cls : Value) (d : Option Addr) : Prop where
  pin : ∃ oe, (a, oe) ∈ C.pn ∧ Zc cls d oe ∧ ∃ vs, oe.data = .fields vs
section
variable {X : Fx} {C : Cx} {G : Gl} {a : Addr} {cls : Value} {d : Option Addr} {c : Nat} {ks : List Nat} {vs : List PV} {i : Nat} {x : Str} {p pos : Pos}
theorem FRel.name {L : Lg} {fr : Frame} {σ : L2.St} (h : FRel X (Jx X (some i) a cls d c ks vs) L fr σ) (hl : i < σ.length) : σ[i]? = some (some (.ref a)) ∧ XR X L c ks vs cls d := ⟨h.j.1 i rfl hl, h.j.2⟩
/-- e.f -/
theorem per_xat {f : Nat} (hK : C.K = X.K) (su : InSu C a cls d) (hN : C.N[i]? = some x) (hv : Vis C.env.scope x) (hd : (x == ("__debug__" : Str)) = false) (hcd : (x == ("__classdict__" : Str)) = false) :
    PEr X (Jx X (some i) a cls d c ks vs) C (.Attribute (.Name x p) (X.aN f) pos) (evE { G with xn := some (c, ks, vs) } (.xat f)) := fun W tk => by
  refine ⟨fun pins s σ H Q I h => ?_⟩
  obtain ⟨L, fr, st, hR, hF, hp⟩ := h
  obtain ⟨hs, hc, xs, fs, hfs, ex, fre, _, rv⟩ := hF.name (by rw [I.len]; exact (List.getElem?_eq_some_iff.mp hN).1)
  simp only [evE] at hp
  cases e1 : lookG f ks vs with
  | none => rw [e1] at hp; exact hp.elim
  | some v =>
    rw [e1] at hp
    obtain ⟨y, e2, r2⟩ := rv.look e1
    obtain ⟨dd, rfl, e3, e4⟩ := hfs f y e2
    have q := hp.here hR r2
    have hno : PySem.W.findIn C.K (.ref (X.cA c)) (X.aN f) = some none := by
      rw [hK]
      refine fre f ?_
      by_cases z : f ∈ ks
      · exact z
      · exfalso
        have : ∀ {ks : List Nat} {vs : List PV}, f ∉ ks → lookG f ks vs = none := by
          intro ks
          induction ks with
          | nil => intro vs _; cases vs <;> rfl
          | cons k ks ih =>
            intro vs hm
            cases vs with
            | nil => rfl
            | cons v vs =>
              unfold lookG
              rw [if_neg (fun e => hm (by rw [e]; exact List.mem_cons_self))]
              exact ih fun m => hm (List.mem_cons_of_mem _ m)
        rw [this z] at e1
        cases e1
    have T : XfC C.K (X.cA c) := by rw [hK]; exact ex.x
    obtain ⟨oe, hpn, hz, vs', hdt⟩ := su.pin
    subst hc
    refine attr_of rfl (thn ((pe_var hN hv hd hcd).run pins s σ H (fun z H1 => z = .ref a ∧ H1 = H) I ⟨.ref a, hs, rfl, rfl⟩) fun u s1 hh => ?_)
    obtain ⟨z, H1, I1, rz, ez, eH⟩ := hh
    subst ez eH
    obtain rfl : u = Value.ref a := rz
    obtain ⟨ha, _⟩ := I1.pin (a, oe) (List.mem_append_left _ hpn)
    have hx : ObjOk C.prog C.w H1 s1.heap dd (.xd fs) := I1.hok dd _ (hR.sub _ _ e3)
    obtain ⟨mA, hns, hr⟩ := hx
    obtain ⟨od, ho, hl⟩ := lookIn_ns hns
    obtain ⟨u, hu, ru⟩ := RelO.some_of (v := y) (o := mA (X.aN f)) (by rw [← e4]; exact hr (X.aN f))
    have Jn : PySem.W.InstAt s1.heap a oe (X.cA c) (some od) := ⟨ha, hz.1, by unfold PySem.W.notCls; rw [hdt] <;> rfl, by rw [hz.2]; exact ho⟩
    exact HandSPX.exc_get I1.kIn Jn T.ga T.gg T.exC (PySem.W.findObj_own T.hdC hno rfl (by rw [hl, hu])) (handed_of ru) ⟨y, H1, I1.tok _, ru, q⟩
end
end Ev

set_option Elab.async false
set_option linter.all false
set_option maxRecDepth 100000
set_option maxHeartbeats 4000000
/-! isinstance of the held exception; try. -/
namespace Ev
open PySem PySem.Spec PyProof.Rows PySem.W
section
variable {prog : Program} {w : World} {A : Around} {E : Value → Shared → Prop} {s : Shared} {K : Frag} {x D : Addr} {ox : Obj} {od : Option Obj}
theorem findObj_dataO {C : Addr} {name : Str} {a g : Value} (hc : (clsIn K C).isSome = true) (ha : findIn K (.ref C) name = some (some a)) (hg : specialIn K a "__get__" = some (some g)) (ht : takesIn K a = some true) : findObj K C od name = some (.bind g a) := by
  obtain ⟨cd, hc⟩ := Option.isSome_iff_exists.mp hc
  unfold findObj
  rw [hc, Option.bind_some, ha, Option.bind_some]
  simp [hg, ht]
/-- the class of an own exception, with or without a dict (the library's rule asks for none) -/
theorem kin_classO {Q : Option Value → Shared → Prop} (hga : findIn K (.ref D) "__getattribute__" = some (some (.builtin "BaseException.__getattribute__"))) (hgt : findIn K (.ref D) "__getattr__" = some none) (hsub : subIn K (.ref D) (.type "BaseException") = some true)
    (hdct : hasDictIn K D = true) (ha : findIn K (.ref D) "__class__" = some (some (.builtin "object.__class__")))
    (hn : specialIn K (.builtin "object.__class__") "__get__" = some (some (.builtin "getset_descriptor.__get__"))) (htk : takesIn K (.builtin "object.__class__") = some true) (hm : mroIn K D (.type "object") = some true)
    (X : K.In s.heap) (I : InstAt s.heap x ox D od) (h : Q (some (.ref D)) { s with toks := s.toks + 1 }) : wpAny (model prog w) A (getAttr? (.ref x) "__class__") Q E s := by
  have hf : findObj K D od "__class__" = some (.bind (.builtin "getset_descriptor.__get__") (.builtin "object.__class__")) := findObj_dataO (by obtain ⟨cd, hc, _⟩ := any_some hdct; rw [hc]; rfl) ha hn htk
  obtain ⟨hp, g, d, t, os⟩ := s
  have L0 := I.type (M := model prog w)
  have L1 := looks_findIn (M := model prog w) X hga
  have L2 := looks_findIn (M := model prog w) X hgt
  have L3 := looks_find (M := model prog w) X I hf
  have sub : Looks (model prog w) hp (isInstance (.ref x) (.type "BaseException")) true := L0.andThen (looks_subIn X hsub)
  have hx0 : (false && onTheHeap (Value.builtin "BaseException.__getattribute__")) = false := rfl
  have hx2 : (Value.builtin "BaseException.__getattribute__" == Value.builtin "object.__getattribute__") = false := by decide +kernel
  have hx1 : (onTheHeap (Value.ref D) && Value.builtin "BaseException.__getattribute__" == Value.builtin "object.__getattribute__") = false := by rw [hx2]; rfl
  unfold getAttr? getAttrBy? getAttrBy
  refine wpAny_bind (wpAny_mkText (wpAny_bind (wpAny_attempt (wpAny_holding (wpAny_bind (L0.at (wpAny_bind (L1.at ?_))))))))
  show wpAny _ _ (if (onTheHeap (Value.ref D) && Value.builtin "BaseException.__getattribute__" == Value.builtin "object.__getattribute__") = true then _ else _) _ _ _
  rw [hx1, if_neg Bool.false_ne_true]
  unfold getAttrByItsOwn hookBefore
  refine wpAny_bind ?_
  rw [if_pos (show onTheHeap (Value.ref D) = true from rfl)]
  refine L2.at ?_
  refine wpAny_bind (wpAny_attempt (wpAny_holding ?_))
  unfold callGetattribute
  rw [hx0, if_neg Bool.false_ne_true]
  unfold boundAndCalled
  rw [PySem.F.excAttr_ValueError.ga.bind (.ref x)]
  refine wpAny_bind (wpAny_pure ?_)
  show wpAny _ _ (call (.builtin "BaseException.__getattribute__") [.ref x, .str "__class__" t]) _ _ _
  refine wpAny_call (codeAny_call_builtin PySem.F.excAttr_ValueError.ga.plain PySem.F.entry_bexc_ga ?_)
  refine @check_slot (model prog w) _ _ ⟨hp, g, d, t + 1, os⟩ "BaseException.__getattribute__" "BaseException" "__getattribute__" (.ref x) [.str "__class__" t] [] _ (by decide +kernel) (by decide +kernel) sub (PySem.F.args_bexc_ga (.ref x) (.str "__class__" t)) ?_
  unfold Builtin.«object.__getattribute__»
  refine wpAny_bind (wpAny_of_eq (a := ((Value.ref x : Value), [Value.str "__class__" t])) (by first | rfl | (simp only [slotArgs]; rfl)) ?_)
  refine wpAny_bind (wpAny_pure (wpAny_bind (L0.at (wpAny_bind (L3.at ?_)))))
  show wpAny _ _ (holding [Value.builtin "object.__class__"] (call (.builtin "getset_descriptor.__get__") [.builtin "object.__class__", .ref x, .ref D]) >>= ret) _ _ _
  refine wpAny_bind (wpAny_holding (wpAny_call (class_get (s := ⟨hp, g, d, t + 1, os⟩) (ox := ox) (od := od) X I hm ?_)))
  refine wpAny_pure ?_
  show wpAny _ _ (handedOut (.ref D)) _ _ _
  rw [handedOut_of (v := .ref D) rfl]
  first
    | exact wpAny_pure (wpAny_pure h)
    | exact wpAny_pure h
    | exact wpAny_pure (wpAny_bind (wpAny_pure (wpAny_pure h)))
theorem kitx_excO (hga : findIn K (.ref D) "__getattribute__" = some (some (.builtin "BaseException.__getattribute__"))) (hgt : findIn K (.ref D) "__getattr__" = some none) (hsub : subIn K (.ref D) (.type "BaseException") = some true) (hdct : hasDictIn K D = true) (ha : findIn K (.ref D) "__class__" = some (some (.builtin "object.__class__")))
    (hn : specialIn K (.builtin "object.__class__") "__get__" = some (some (.builtin "getset_descriptor.__get__"))) (htk : takesIn K (.builtin "object.__class__") = some true) (hm : mroIn K D (.type "object") = some true) :
    KitX K (.ref x) (.ref D) (fun h => InstAt h x ox D od) where
  ty := fun _ _ _ I => I.type
  it := fun _ _ X _ => by
    obtain ⟨cdD, hcD, _⟩ := any_some hdct
    unfold clsIn at hcD
    split at hcD
    · rename_i c' d' cd' sl' ho
      intro A' Q' E' s' k q
      unfold isType loadHead
      exact wpAny_bind (wpAny_loadPart (k _ _ (X _ _ ho)) (wpAny_pure q))
    · cases hcD
  ne := fun h tp dd its n sl X htp => by
    obtain ⟨cdD, hcD, _⟩ := any_some hdct
    refine Bool.eq_false_iff.mpr fun q => ?_
    have e : D = tp := Value.ref.inj (beq_iff_eq.mp q)
    subst e
    unfold clsIn at hcD
    split at hcD
    · rename_i c' d' cd' sl' ho
      have z := (X _ _ ho).symm.trans htp
      cases z
    · cases hcD
  ca := fun X I k => kin_classO hga hgt hsub hdct ha hn htk hm X I k
end
end Ev
namespace Ev
open PySem PySem.Spec PyProof.Rows L2
section
variable {X : Fx} {C : Cx} {G : Gl} {a : Addr} {cls : Value} {d : Option Addr} {c : Nat} {ks : List Nat} {vs : List PV} {i : Nat} {x : Str} {p p2 pos : Pos} {W : WX} {J : Jd}
theorem ex_one (hI : IsOk X G) (ex : ExOk X c) {t : Ty} (ht : TyIn X t) : PySem.W.kitOne X.K (.ref (X.cA c)) (tyVal X t) = some (exTys G c [t]) := by
  cases t with
  | own dd =>
    show _ = some (G.sub c dd || false)
    rw [Bool.or_false]
    exact hI.oo c dd ex.lt ht
  | verr => exact ex.ve
  | bool => exact hI.ob _ (by simp) c ex.lt
  | int => exact hI.ob _ (by simp) c ex.lt
  | str => exact hI.ob _ (by simp) c ex.lt
  | list => exact hI.ob _ (by simp) c ex.lt
  | tuple => exact hI.ob _ (by simp) c ex.lt
  | dict => exact hI.ob _ (by simp) c ex.lt
/-- the exception's object and its dict, as isinstance asks -/
theorem exc_inst {L : Lg} {H : Hp} {st : Store} (hR : Rel X L H st) (rx : XR X L c ks vs cls d) {oe : Obj} {vs' : Array Value} {pins : List (Addr × Obj)} {σ : L2.St} {s : Shared} (I : Inv C pins σ H s) (ha : s.heap.get? a = some oe) (hz : Zc cls d oe) (hdt : oe.data = .fields vs') :
    ∃ od, PySem.W.InstAt s.heap a oe (X.cA c) od := by
  obtain ⟨hc, xs, fs, hfs, ex, fre, ho, rv⟩ := rx
  subst hc
  have hn : PySem.W.notCls oe = true := by unfold PySem.W.notCls; rw [hdt] <;> rfl
  rcases ho with rfl | ⟨dd, fs', rfl, e3⟩
  · exact ⟨none, ha, hz.1, hn, by rw [hz.2]; trivial⟩
  · have hx : ObjOk C.prog C.w H s.heap dd (.xd fs') := I.hok dd _ (hR.sub _ _ e3)
    obtain ⟨mA, hns, hr⟩ := hx
    obtain ⟨od, ho, hl⟩ := lookIn_ns hns
    exact ⟨some od, ha, hz.1, hn, by rw [hz.2]; exact ho⟩
/-- isinstance(e, T) -/
theorem per_xis {e : PySem.Expr} {t : Ty} (hI : IsOk X G) (hK : C.K = X.K) (su : InSu C a cls d) (hg : L2.Gl C "isinstance") (hm : C.mg "isinstance" = none) (hN : C.N[i]? = some x) (hv : Vis C.env.scope x) (hd : (x == ("__debug__" : Str)) = false) (hcd : (x == ("__classdict__" : Str)) = false) (ht : PTy X C e t) :
    PEr X (Jx X (some i) a cls d c ks vs) C (.Call (.Name "isinstance" p) [.Name x p2, e] [] pos) (evE { G with xn := some (c, ks, vs) } (.xis [t])) := fun W tk => by
  obtain ⟨oe, hpn, hz, vs', hdt⟩ := su.pin
  refine ⟨fun pins s σ H Q I h => ?_⟩
  obtain ⟨L, fr, st, hR, hF, hp⟩ := h
  obtain ⟨hs, rx⟩ := hF.name (by rw [I.len]; exact (List.getElem?_eq_some_iff.mp hN).1)
  have ex : ExOk X c := rx.2.choose_spec.choose_spec.2.1
  have q : Q (.bl (exTys G c [t])) H := RP.here (R := RV X) hp hR (.bl _)
  refine (pe_callB (X := C) (r := fun xs H1 Q1 => xs = [V.ref a, tyV X t] ∧ H1 = H ∧ Q1 (.bl (exTys G c [t])) H) ?_ hg hm (show bootBuiltins "isinstance" = some (Value.builtin "isinstance") by decide +kernel) (pa_cons (pe_var hN hv hd hcd) (pa_cons ht.2.1 pa_nil (star_of ht.2.2 _ _))) (by decide) (by decide) rfl (plain_args (by simp [ht.2.2]) _ _)).run pins s σ H Q I ⟨.ref a, hs, rfl, rfl, q⟩
  intro pins s σ1 H1 xs us Q1 I1 r h1
  obtain ⟨rfl, rfl, q1⟩ := h1
  obtain ⟨u1, u2, rfl, r1, r2⟩ := vals2 r
  obtain rfl : u1 = Value.ref a := r1
  have e2 := (ty_cls t).eq r2
  subst e2
  obtain ⟨ha, _⟩ := I1.pin (a, oe) (List.mem_append_left _ hpn)
  obtain ⟨od, Jn⟩ := exc_inst hR rx I1 ha hz hdt
  have T : ExcC C.K (X.cA c) := by rw [hK]; exact ex.e
  exact PySem.W.kia_one (kitx_excO T.hg T.hk T.hs T.hd T.ha T.hn T.ht T.hm) I1.kIn Jn (by rw [hK]; exact ex_one hI ex ht.1) (fun z => nomatch z) fun tk => ⟨.bl (exTys G c [t]), H1, I1.kept (t' := tk) fun _ _ z => z, rfl, q1⟩
end
/-! ### try -/
section
variable {X : Fx} {C : Cx} {E : Ent} {n : Nat} {xn : Option (Nat × List Nat × List PV)} {body : List Stmt} {cbody : List CS} {pos : Pos}
/-- a clause: class, name, suite -/
inductive ClOk (X : Fx) (E : Ent) (n : Nat) (C : Cx) : List ExceptHandler → List CS → Prop
  | nil : ClOk X E n C [] []
  | cons {x : Str} {cl : Nat} {b₀ : Stmt} {suite : List Stmt} {cs : List CS} {np pos' : Pos} {hds : List ExceptHandler} {css : List CS} (hg : L2.Gl C x) (hdb : (x == ("__debug__" : Str)) = false) (hx : E.globs.lookup x = some (.cls cl)) (hc : cl ∈ E.xcls)
      (hsu : ∀ (a : Addr) (oe : Obj) (cls : Value) (d : Option Addr) (pn : List (Addr × Obj)) (c : Nat) (ks : List Nat) (vs : List PV), Zc cls d oe → (∃ vs, oe.data = .fields vs) → PSsr X (Jx X none a cls d c ks vs) (C.suite a ((a, oe) :: pn)) (b₀ :: suite) (exSs (Gn E n none) cs)) (r : ClOk X E n C hds css) :
      ClOk X E n C (.ExceptHandler (some (.Name x np)) none (b₀ :: suite) pos' :: hds) (.hnd cl none cs :: css)
  | consA {x nm : Str} {i cl : Nat} {b₀ : Stmt} {suite : List Stmt} {cs : List CS} {np pos' : Pos} {hds : List ExceptHandler} {css : List CS} (hg : L2.Gl C x) (hdb : (x == ("__debug__" : Str)) = false) (hx : E.globs.lookup x = some (.cls cl)) (hc : cl ∈ E.xcls) (hi : C.N[i]? = some nm) (hln : C.env.kindOf nm = some .local)
      (hsu : ∀ (a : Addr) (oe : Obj) (cls : Value) (d : Option Addr) (pn : List (Addr × Obj)) (c : Nat) (ks : List Nat) (vs : List PV), Zc cls d oe → (∃ vs, oe.data = .fields vs) → PSsr X (Jx X (some i) a cls d c ks vs) (C.suite a ((a, oe) :: pn)) (b₀ :: suite) (exSs (Gn E n (some (c, ks, vs))) cs)) (r : ClOk X E n C hds css) :
      ClOk X E n C (.ExceptHandler (some (.Name x np)) (some nm) (b₀ :: suite) pos' :: hds) (.hnd cl (some i) cs :: css)
/-- the readings of the clauses -/
def hdT (X : Fx) (E : Ent) (n : Nat) : List CS → List HdT
  | .hnd cl none cs :: r => (.ref (X.cA cl), none, fun a cls d D σ H => ∃ c ks vs, TSr X (Jx X none a cls d c ks vs) W0 (exSs (Gn E n none) cs) D σ H) :: hdT X E n r
  | .hnd cl (some i) cs :: r => (.ref (X.cA cl), some i, fun a cls d D σ H => ∃ c ks vs, TSr X (Jx X (some i) a cls d c ks vs) W0 (exSs (Gn E n (some (c, ks, vs))) cs) D σ H) :: hdT X E n r
  | _ => []
theorem pss_ex {C : Cx} {sts : List Stmt} {t : Nat → List Nat → List PV → TS} (h : ∀ c ks vs, PSs C sts (t c ks vs)) : PSs C sts (fun D σ H => ∃ c ks vs, t c ks vs D σ H) := ⟨fun pins s σ H D I hq => by
  obtain ⟨c, ks, vs, hq⟩ := hq
  exact (h c ks vs).run pins s σ H D I hq⟩
theorem mix_of (c : CxOk X E n C) : ∀ {hds : List ExceptHandler} {css : List CS}, ClOk X E n C hds css → MixOk C hds (hdT X E n css) := by
  intro hds css h
  induction h with
  | nil => exact .nil
  | cons hg hdb hx hc hsu r ih => exact .cons ⟨hg, hdb, .inl (c.en.cl _ _ hx).1⟩ (fun a oe cls d pn hz hf => pss_ex fun c ks vs => hsu a oe cls d pn c ks vs hz hf W0 fun _ _ ⟨_, _, _, _, _, _, _, _, _, _, _, _, _, _, _, _, w⟩ => w.elim) ih
  | consA hg hdb hx hc hi hln hsu r ih => exact .consA ⟨hg, hdb, .inl (c.en.cl _ _ hx).1⟩ hi hln (fun a oe cls d pn hz hf => pss_ex fun c ks vs => hsu a oe cls d pn c ks vs hz hf W0 fun _ _ ⟨_, _, _, _, _, _, _, _, _, _, _, _, _, _, _, _, w⟩ => w.elim) ih
theorem fr_in {L : Lg} {fr : Frame} {σ : L2.St} (h : FRel X J0 L fr σ) {a : Addr} {cls : Value} {d : Option Addr} {c : Nat} {ks : List Nat} {vs : List PV} (rx : XR X L c ks vs cls d) : FRel X (Jx X none a cls d c ks vs) L fr σ := ⟨⟨(fun k e _ => nomatch e), rx⟩, h.len, h.val⟩
theorem fr_inA {L : Lg} {fr : Frame} {σ : L2.St} (h : FRel X J0 L fr σ) {i : Nat} {a : Addr} {cls : Value} {d : Option Addr} {c : Nat} {ks : List Nat} {vs : List PV} (rx : XR X L c ks vs cls d) : FRel X (Jx X (some i) a cls d c ks vs) L (fr.set i none) (σ.set i (some (.ref a))) := by
  have h2 := h.unset i (some (.ref a)) (by intro z; cases z)
  exact ⟨⟨fun k e hl => by cases e; rw [List.getElem?_set_self (by rw [List.length_set] at hl; exact hl)], rx⟩, h2.len, h2.val⟩
theorem fr_out {L : Lg} {fr : Frame} {σ : L2.St} {i : Option Nat} {a : Addr} {cls : Value} {d : Option Addr} {c : Nat} {ks : List Nat} {vs : List PV} (h : FRel X (Jx X i a cls d c ks vs) L fr σ) : FRel X J0 L fr σ := ⟨trivial, h.len, h.val⟩
theorem fr_unset {L : Lg} {fr : Frame} {σ : L2.St} (h : FRel X J0 L fr σ) (i : Nat) : FRel X J0 L (fr.set i none) (σ.set i none) := h.unset i none (by intro z; cases z)
/-- the clauses' wish, from what the table says -/
theorem wish_of {W : WX} {D : Ends} (c0 : CxOk X E n C) : ∀ {hds : List ExceptHandler} {css : List CS}, ClOk X E n C hds css → ∀ {L : Lg} {c : Nat} {ks : List Nat} {vs : List PV} {fr : Frame} {st : Store} {H : Hp} {σ : L2.St} {cls : Value} {d : Option Addr},
    Rel X L H st → FRel X J0 L fr σ → XR X L c ks vs cls d → SR X J0 W D L (exH (Gn E n xn) css c ks vs fr st) → wMix C.K W D (hdT X E n css) cls d σ H := by
  intro hds css h
  induction h with
  | nil =>
    intro L c ks vs fr st H σ cls d hR hF rx hp
    exact hp L H σ cls d .rfl' hR hF rx
  | @cons x cl b₀ suite cs np pos' hds css hg hdb hx hc hsu r ih =>
    intro L c ks vs fr st H σ cls d hR hF rx hp
    have ecl : cls = .ref (X.cA c) := rx.1
    have ex : ExOk X c := rx.2.choose_spec.choose_spec.2.1
    refine ⟨(Gn E n xn).sub c cl, by rw [c0.K, ecl]; exact c0.en.xm c cl ex.lt hc, fun hb a na => ?_, fun hb => ?_⟩
    · refine ⟨c, ks, vs, L, fr, st, hR, fr_in hF rx, ?_⟩
      simp only [exH] at hp
      rw [hb] at hp
      have hp' : SR X J0 W D L (match exSs (Gn E n none) cs fr st with
        | .exc _ _ _ _ _ => .stuck
        | r => r) := hp
      cases e : exSs (Gn E n none) cs fr st with
      | nx fr1 st1 => rw [e] at hp'; exact fun L' H' σ' le r f => hp' L' H' σ' le r (fr_out f)
      | rt v st1 => rw [e] at hp'; exact hp'
      | bk fr1 st1 => rw [e] at hp'; exact fun L' H' σ' le r f => hp' L' H' σ' le r (fr_out f)
      | ct fr1 st1 => rw [e] at hp'; exact fun L' H' σ' le r f => hp' L' H' σ' le r (fr_out f)
      | exc _ _ _ _ _ => rw [e] at hp'; exact hp'.elim
      | stuck => rw [e] at hp'; exact hp'.elim
    · simp only [exH] at hp
      rw [hb] at hp
      exact ih hR hF rx hp
  | @consA x nm i cl b₀ suite cs np pos' hds css hg hdb hx hc hi hln hsu r ih =>
    intro L c ks vs fr st H σ cls d hR hF rx hp
    have ecl : cls = .ref (X.cA c) := rx.1
    have ex : ExOk X c := rx.2.choose_spec.choose_spec.2.1
    refine ⟨(Gn E n xn).sub c cl, by rw [c0.K, ecl]; exact c0.en.xm c cl ex.lt hc, fun hb a na => ?_, fun hb => ?_⟩
    · refine ⟨c, ks, vs, L, fr.set i none, st, hR, fr_inA hF rx, ?_⟩
      simp only [exH] at hp
      rw [hb] at hp
      have hp' : SR X J0 W D L (match exSs (Gn E n (some (c, ks, vs))) cs (fr.set i none) st with
        | .nx fr1 st1 => .nx (fr1.set i none) st1
        | .bk fr1 st1 => .bk (fr1.set i none) st1
        | .ct fr1 st1 => .ct (fr1.set i none) st1
        | .exc _ _ _ _ _ => .stuck
        | r => r) := hp
      cases e : exSs (Gn E n (some (c, ks, vs))) cs (fr.set i none) st with
      | nx fr1 st1 => rw [e] at hp'; exact fun L' H' σ' le r f => hp' L' H' _ le r (fr_unset (fr_out f) i)
      | rt v st1 => rw [e] at hp'; exact hp'
      | bk fr1 st1 => rw [e] at hp'; exact fun L' H' σ' le r f => hp' L' H' _ le r (fr_unset (fr_out f) i)
      | ct fr1 st1 => rw [e] at hp'; exact fun L' H' σ' le r f => hp' L' H' _ le r (fr_unset (fr_out f) i)
      | exc _ _ _ _ _ => rw [e] at hp'; exact hp'.elim
      | stuck => rw [e] at hp'; exact hp'.elim
    · simp only [exH] at hp
      rw [hb] at hp
      exact ih hR hF rx hp
theorem psr_try {h₀ : ExceptHandler} {hds : List ExceptHandler} {css : List CS} (c : CxOk X E n C) (hst : C.stack = C.env :: C.outer) (hf : C.env.frame = some C.env.locals) (hN : C.N.Nodup)
    (hb : ∀ (pn : List (Addr × Obj)) (xe : Value → Shared → Prop), PassesOwn (model C.prog C.w) C.A C.env xe → PSsr X J0 (C.tr pn xe) body (exSs (Gn E n xn) cbody)) (hh : ClOk X E n C (h₀ :: hds) css) :
    PSr X J0 C (.Try body (h₀ :: hds) [] [] pos) (exS (Gn E n xn) (.try_ cbody css)) := fun W tk =>
  PS.imp (ps_try_mix (tb := fun W' => TSr X J0 W' (exSs (Gn E n xn) cbody)) hst hf hN tk (fun W' pn xe tk' po => hb pn xe po W' tk') (mix_of c hh)) fun D σ H h => by
    obtain ⟨L, fr, st, hR, hF, hp⟩ := h
    refine ⟨L, fr, st, hR, hF, ?_⟩
    simp only [exS] at hp
    cases e : exSs (Gn E n xn) cbody fr st with
    | exc cc ks vs fr1 st1 =>
      rw [e] at hp
      exact fun L' H' σ' cls d le hR' hF' rx => wish_of c hh hR' hF' rx (SR.mono le hp)
    | nx fr1 st1 => rw [e] at hp; exact hp
    | rt v st1 => rw [e] at hp; exact hp
    | bk fr1 st1 => rw [e] at hp; exact hp
    | ct fr1 st1 => rw [e] at hp; exact hp
    | stuck => rw [e] at hp; exact hp.elim
end
end Ev

set_option Elab.async false
set_option linter.all false
set_option maxRecDepth 100000
set_option maxHeartbeats 2000000
/-! Negation, comparisons with own ==, chains, parallel stores. -/
namespace Ev
open PySem PySem.Spec PyProof.Rows L2
section
variable {X : Fx} {J : Jd} {C : Cx} {E : Ent} {n : Nat} {xn : Option (Nat × List Nat × List PV)} {G : Gl} {e a b c : PySem.Expr} {ce ca cb cc : CE} {es : List PySem.Expr} {ces : List CE} {pos tpos : Pos}
theorem per_neg (ha : PEr X J C a (evE G ca)) : PEr X J C (.UnaryOp .USub a pos) (evE G (.neg ca)) := fun W tk =>
  PE.imp (pe_un un_neg (ha W tk)) fun σ H Q h => by
    obtain ⟨L, fr, st, hR, hF, hp⟩ := h
    simp only [evE] at hp
    refine ⟨L, fr, st, hR, hF, RP.imp (RP.bind hp) ?_⟩
    rintro x H1 ⟨L1, v, st1, le, hR1, r, hp1⟩
    cases v <;> try exact hp1.elim
    cases r
    exact ⟨_, rfl, hp1.here hR1 (.int _)⟩
/-! ### comparisons -/
theorem or_compare {W : WX} (tk : Takes C W) (k : CxOk X E n C) : ∀ o, OpR C (compareOp (copOf o)) (R2r X W (compare (Gn E n xn) o)) := fun o => by
  have hu := k.units
  cases o with
  | eq =>
    intro pins s σ H x y v u Q I rx ry h
    obtain ⟨L, pa, pb, st, σ0, hR, ra, rb, hp⟩ := h
    cases e : clsOf st pa with
    | none =>
      simp only [compare, e] at hp
      exact or_cmp k.K hu .eq pins s σ H x y v u Q I rx ry ⟨L, pa, pb, st, σ0, hR, ra, rb, hp⟩
    | some c =>
      simp only [compare, e] at hp
      by_cases h2 : clsOf st pb = some c
      · rw [if_pos h2] at hp
        exact or_eqOwn tk k I rx ry hR ra rb e h2 hp
      · rw [if_neg h2] at hp; exact hp.elim
  | ne =>
    intro pins s σ H x y v u Q I rx ry h
    obtain ⟨L, pa, pb, st, σ0, hR, ra, rb, hp⟩ := h
    cases e : clsOf st pa with
    | none =>
      simp only [compare, e] at hp
      exact or_cmp k.K hu .ne pins s σ H x y v u Q I rx ry ⟨L, pa, pb, st, σ0, hR, ra, rb, hp⟩
    | some c => simp only [compare, e] at hp; exact hp.elim
  | lt => exact or_cmp k.K hu .lt
  | le => exact or_cmp k.K hu .le
  | gt => exact or_cmp k.K hu .gt
  | ge => exact or_cmp k.K hu .ge
  | inn => exact or_cmp k.K hu .inn
  | notin => exact or_cmp k.K hu .notin
  | is => exact or_cmp k.K hu .is
  | isnot => exact or_cmp k.K hu .isnot
theorem cmpop_bl : ∀ {o : COp} {a b : PV} {st st' : Store} {v : PV}, cmpop o a b st = .ok v st' → ∃ k, v = .bl k := by
  intro o a b st st' v h
  cases o <;> simp only [cmpop] at h
  case eq => cases e : pyEq st a b with
    | none => rw [e] at h; cases h
    | some k => rw [e] at h; cases h; exact ⟨_, rfl⟩
  case ne => cases e : pyEq st a b with
    | none => rw [e] at h; cases h
    | some k => rw [e] at h; cases h; exact ⟨_, rfl⟩
  case inn => cases e : isIn st a b with
    | none => rw [e] at h; cases h
    | some k => rw [e] at h; cases h; exact ⟨_, rfl⟩
  case notin => cases e : isIn st a b with
    | none => rw [e] at h; cases h
    | some k => rw [e] at h; cases h; exact ⟨_, rfl⟩
  case is => cases b <;> first | (cases h; exact ⟨_, rfl⟩) | (cases a <;> first | (cases h; exact ⟨_, rfl⟩) | cases h) | cases h
  case isnot => cases b <;> first | (cases h; exact ⟨_, rfl⟩) | (cases a <;> first | (cases h; exact ⟨_, rfl⟩) | cases h) | cases h
  all_goals (cases a <;> cases b <;> first | (cases h; exact ⟨_, rfl⟩) | cases h)
theorem compare_bl : ∀ {o : COp} {a b : PV} {st st' : Store} {v : PV}, compare G o a b st = .ok v st' → ∃ k, v = .bl k := by
  intro o a b st st' v h
  cases o <;> simp only [compare] at h
  case eq =>
    cases e : clsOf st a with
    | none => rw [e] at h; exact cmpop_bl h
    | some c =>
      rw [e] at h
      by_cases h2 : clsOf st b = some c
      · simp only [if_pos h2] at h
        unfold eqOwn at h
        split at h
        · split at h
          · split at h
            · cases h; exact ⟨_, rfl⟩
            · cases h
          · cases h
        · cases h
      · simp only [if_neg h2] at h; cases h
  case ne =>
    cases e : clsOf st a with
    | none => rw [e] at h; exact cmpop_bl h
    | some c => rw [e] at h; cases h
  all_goals exact cmpop_bl h
theorem per_compare {op : CmpOp} {o : COp} (ho : ∀ W, Takes C W → OpR C (compareOp op) (R2r X W (compare G o))) (ha : PEr X J C a (evE G ca)) (hb : PEr X J C b (evE G cb)) (hm : behindInMarks op b = false) : PEr X J C (.Compare a [op] [b] pos) (evE G (.cmp o ca cb)) :=
  per_cmp ho ha hb hm
theorem ptr_compare {op : CmpOp} {o : COp} (ho : ∀ W, Takes C W → OpR C (compareOp op) (R2r X W (compare G o))) (ha : PEr X J C a (evE G ca)) (hb : PEr X J C b (evE G cb)) (hm : behindInMarks op b = false) : PTr X J C (.Compare a [op] [b] pos) (evE G (.cmp o ca cb)) :=
  ptr_cmp ho (fun a b st v st' h => compare_bl h) ha hb hm
theorem per_cmpD {op : CmpOp} {o : COp} (ho : copOf o = op) (hK : C.K = X.K) (hu : C.A.units + 64 < cLine) (ha : PEr X J C a (evE G ca)) (hb : PEr X J C b (evE G cb)) (hm : behindInMarks op b = false) : PEr X J C (.Compare a [op] [b] pos) (evE G (.cmpD o ca cb)) := by
  subst ho
  exact per_cmp (fun W tk => or_cmp hK hu o) ha hb hm
theorem ptr_cmpD {op : CmpOp} {o : COp} (ho : copOf o = op) (hK : C.K = X.K) (hu : C.A.units + 64 < cLine) (ha : PEr X J C a (evE G ca)) (hb : PEr X J C b (evE G cb)) (hm : behindInMarks op b = false) : PTr X J C (.Compare a [op] [b] pos) (evE G (.cmpD o ca cb)) := by
  subst ho
  exact ptr_cmp (fun W tk => or_cmp hK hu o) (fun a b st v st' h => cmpop_bl h) ha hb hm
/-! ### a op b op' c -/
theorem chain_of {o p : COp} {W : WX} {σ : L2.St} {H : Hp} {Q : VK} (h : TEr X J W (evE G (.chain o p ca cb cc)) σ H Q) :
    tChain (R2r X W (cmpop o)) (R2r X W (cmpop p)) (TEr X J W (evE G ca)) (TEr X J W (evE G cb)) (TEr X J W (evE G cc)) σ H Q := by
  obtain ⟨L, fr, st, hR, hF, hp⟩ := h
  simp only [evE] at hp
  refine ⟨L, fr, st, hR, hF, RP.imp (RP.bind hp) ?_⟩
  rintro x H1 ⟨L1, va, st1, le1, hR1, ra, hp1⟩
  refine ⟨L1, fr, st1, hR1, hF.mono le1, RP.imp (RP.bind hp1) ?_⟩
  rintro y H2 ⟨L2, vb, st2, le2, hR2, rb, hp2⟩
  refine ⟨L2, va, vb, st2, σ, hR2, ra.mono le2, rb, RP.imp (RP.bindE hp2) ?_⟩
  rintro z H3 ⟨L3, k, st3, ek, le3, hR3, rk, hp3⟩
  obtain ⟨kb, rfl⟩ := cmpop_bl ek
  cases rk
  refine ⟨kb, rfl, ?_⟩
  cases kb with
  | false =>
    rw [if_neg Bool.false_ne_true]
    exact RP.here (R := RV X) (show RP X L3 (RV X) W σ (.ok (.bl false) st3) Q from hp3) hR3 (.bl false)
  | true =>
    rw [if_pos rfl]
    have hp4 : RP X L3 (RV X) W σ ((evE G cc fr st3).bind fun z st4 => cmpop p vb z st4) Q := hp3
    refine ⟨L3, fr, st3, hR3, ((hF.mono le1).mono le2).mono le3, RP.imp (RP.bind hp4) ?_⟩
    rintro w H4 ⟨L4, vc, st4, le4, hR4, rc, hp5⟩
    exact ⟨L4, vb, vc, st4, σ, hR4, (rb.mono le3).mono le4, rc, hp5⟩
def notSet : PySem.Expr → Bool
  | .Set _ _ _ => false
  | _ => true
theorem marks_of {op : CmpOp} {e : PySem.Expr} (h : notSet e = true) : behindInMarks op e = false := by
  cases e <;> first | rfl | cases h
theorem per_chain {o p : COp} {op op' : CmpOp} (ho : copOf o = op) (hp : copOf p = op') (hK : C.K = X.K) (hu : C.A.units + 64 < cLine) (ha : PEr X J C a (evE G ca)) (hb : PEr X J C b (evE G cb)) (hc : PEr X J C c (evE G cc)) (hs : notSet c = true) :
    PEr X J C (.Compare a [op, op'] [b, c] pos) (evE G (.chain o p ca cb cc)) := fun W tk => by
  subst ho hp
  exact PE.imp (pe_chain (or_cmp hK hu o) (or_cmp hK hu p) (ha W tk) (hb W tk) (hc W tk) (marks_of hs)) fun σ H Q h => chain_of h
theorem ptr_chain {o p : COp} {op op' : CmpOp} (ho : copOf o = op) (hp : copOf p = op') (hK : C.K = X.K) (hu : C.A.units + 64 < cLine) (ha : PEr X J C a (evE G ca)) (hb : PEr X J C b (evE G cb)) (hc : PEr X J C c (evE G cc)) (hs : notSet c = true) :
    PTr X J C (.Compare a [op, op'] [b, c] pos) (evE G (.chain o p ca cb cc)) := fun W tk => by
  subst ho hp
  refine PT.imp (pt_chain (or_cmp (W := W) hK hu o) (or_cmp (W := W) hK hu p) (ha W tk) (hb W tk) (hc W tk) (marks_of hs)) fun σ H Q h => ?_
  refine chain_of ?_
  obtain ⟨L, fr, st, hR, hF, hp⟩ := h
  refine ⟨L, fr, st, hR, hF, ?_⟩
  -- the chain's value is a bool
  have hb : ∀ v st', evE G (.chain o p ca cb cc) fr st = .ok v st' → ∃ k, v = .bl k := by
    intro v st' hv
    simp only [evE] at hv
    cases e1 : evE G ca fr st with
    | stuck => rw [e1] at hv; cases hv
    | exc _ _ _ _ => rw [e1] at hv; cases hv
    | ok va st1 =>
      rw [e1] at hv
      simp only [Res.bind] at hv
      cases e2 : evE G cb fr st1 with
      | stuck => rw [e2] at hv; cases hv
      | exc _ _ _ _ => rw [e2] at hv; cases hv
      | ok vb st2 =>
        rw [e2] at hv
        simp only at hv
        cases e3 : cmpop o va vb st2 with
        | stuck => rw [e3] at hv; cases hv
        | exc _ _ _ _ => rw [e3] at hv; cases hv
        | ok k st3 =>
          rw [e3] at hv
          simp only at hv
          obtain ⟨kb, rfl⟩ := cmpop_bl e3
          cases kb with
          | false => cases hv; exact ⟨false, rfl⟩
          | true =>
            have hv2 : ((evE G cc fr st3).bind fun z st4 => cmpop p vb z st4) = .ok v st' := hv
            cases e4 : evE G cc fr st3 with
            | stuck => rw [e4] at hv2; cases hv2
            | exc _ _ _ _ => rw [e4] at hv2; cases hv2
            | ok z st4 => rw [e4] at hv2; exact cmpop_bl hv2
  cases e : evE G (.chain o p ca cb cc) fr st with
  | stuck => rw [e] at hp; exact hp
  | exc _ _ _ _ => rw [e] at hp; exact hp
  | ok v st' =>
    rw [e] at hp
    obtain ⟨k, rfl⟩ := hb v st' e
    intro L' H' y le r1 rv
    cases rv
    exact ⟨k, rfl, hp L' H' k le r1 rfl⟩
/-! ### a, b = x, y -/
def notFold (vs : List PySem.Expr) : Bool := !(vs.all (foldedForSure 8)) && !(vs.all (constantsAlone 8))
theorem swapped2 {x y : Str} {px py pt pt2 : Pos} {kt k2 : Nat} {env : Env} (hk : env.scope.kind = .function) (hx : env.scope.names.lookup x = some .local) (hy : env.scope.names.lookup y = some .local) (hl : (py.line == px.line) = true) (hxy : x ≠ y)
    (hs : noStar a = true) (hs2 : noStar b = true) (hf : notFold [a, b] = true) : swappedStores [.Tuple [.Name x px, .Name y py] kt pt] (.Tuple [a, b] k2 pt2) env = pure (some [x, y]) := by
  have hb : env.blockKind = .function := by unfold Env.blockKind; rw [hk]; rfl
  have kx : env.kindOf x = some .local := hx
  have ky : env.kindOf y = some .local := hy
  have h1 : ([a, b].any fun | .Starred .. => true | _ => false) = false := by
    rw [List.any_eq_false]
    intro z hz
    have hz' : noStar z = true := by
      rcases List.mem_cons.mp hz with rfl | hz
      · exact hs
      · rcases List.mem_cons.mp hz with rfl | hz
        · exact hs2
        · cases hz
    cases z <;> first | exact Bool.false_ne_true | cases hz'
  unfold notFold at hf
  rw [Bool.and_eq_true, Bool.not_eq_true', Bool.not_eq_true'] at hf
  have hxx : (px.line == px.line) = true := by simp
  have hne : (y == x) = false := by rw [beq_eq_false_iff_ne]; exact fun z => hxy z.symm
  unfold swappedStores
  simp only [hb, h1, kx, ky, hl, hxx, hf.1, hf.2, Expr.pos, List.head?_cons, Option.map_some, Option.getD_some, List.filterMap_cons, List.filterMap_nil, List.length_cons, List.length_nil, List.eraseDups_cons, List.eraseDups_nil, List.filter_cons, List.filter_nil, hne, Bool.false_eq_true, if_false, Bool.and_self, beq_self_eq_true, if_true]
  have hd : [y].eraseDups.length = 1 := by rw [List.eraseDups_cons]; rfl
  have qa : ∀ e : PySem.Expr, noStar e = true → ¬ ((match e with | .Starred .. => true | _ => false) = true) := fun e h => by
    cases e <;> first | exact Bool.false_ne_true | cases h
  simp
  rw [if_neg (fun z => z.elim (qa a hs) (qa b hs2)), if_pos hd]
theorem psr_par2 {i j : Nat} {x y : Str} {px py pt pt2 : Pos} {kt k2 : Nat} (hJi : J.fix ≠ some i) (hJj : J.fix ≠ some j) (hc : C.calm = true) (hN : C.N.Nodup) (hi : C.N[i]? = some x) (hj : C.N[j]? = some y) (hij : i ≠ j)
    (hx : C.env.scope.names.lookup x = some .local) (hy : C.env.scope.names.lookup y = some .local) (hk : C.env.scope.kind = .function) (hl : (py.line == px.line) = true) (hs : noStar a = true) (hs2 : noStar b = true) (hf : notFold [a, b] = true)
    (ha : PAr X J C [a, b] (evEs G [ca, cb])) : PSr X J C (.Assign [.Tuple [.Name x px, .Name y py] kt pt] (.Tuple [a, b] k2 pt2) pos) (exS G (.par [i, j] [ca, cb])) := fun W tk => by
  have hxy : x ≠ y := fun z => hij (by
    subst z
    exact nodup_ix hN hi hj)
  refine PS.imp (ps_par hc hN hi hj hij hx hy (ha W tk) (swapped2 hk hx hy hl hxy hs hs2 hf)) fun D σ H h => ?_
  obtain ⟨L, fr, st, hR, hF, hp⟩ := h
  simp only [exS] at hp
  refine ⟨L, fr, st, hR, hF, RP.imp (SR.toS (R := RVs X) hF hp) ?_⟩
  rintro ws H1 ⟨L1, vs, st1, le, hR1, r, hp1⟩
  match vs, ws, r, hp1 with
  | [v, w], _, .cons r1 (.cons r2 .nil), hp1 =>
    refine ⟨_, _, rfl, ?_⟩
    have hp2 : SR X J W D L1 (.nx ((fr.set i (some v)).set j (some w)) st1) := hp1
    exact hp2.here hR1 (((hF.mono le).set r1 i hJi).set r2 j hJj)
  | [], _, _, hp1 => exact hp1.elim
  | [_], _, _, hp1 => exact hp1.elim
  | _ :: _ :: _ :: _, _, _, hp1 => exact hp1.elim
end
end Ev

set_option Elab.async false
set_option linter.all false
set_option maxRecDepth 100000
set_option maxHeartbeats 4000000
/-! From the text's expressions to the evaluator's: compiled and checked in one; what it compiles is kept by the model. -/
namespace Ev
open PySem PySem.Spec PyProof.Rows L2
/-- what is known of a body (of a block in it, of a suite in it) -/
structure SC where
  N : List Str
  scope : Scope
  calm : Bool
  top : Bool
  /-- names that are cells here (none: any) -/
  fnm : Option (List (Str × NameKind))
  /-- the slot that holds a suite's exception -/
  xs : Option Nat
def SC.fnB (sc : SC) (x : Str) : Bool := match sc.fnm with
  | none => true
  | some ns => ns.lookup x == some .cell
def slotOf : List Str → Str → Option Nat
  | [], _ => none
  | y :: ys, x => if y = x then some 0 else (slotOf ys x).map (· + 1)
theorem slotOf_at : ∀ {N : List Str} {x : Str} {i : Nat}, slotOf N x = some i → N[i]? = some x
  | y :: ys, x, i, h => by
    unfold slotOf at h
    by_cases e : y = x
    · rw [if_pos e] at h; cases h; rw [e]; rfl
    · rw [if_neg e] at h
      cases e2 : slotOf ys x with
      | none => rw [e2] at h; cases h
      | some j =>
        rw [e2] at h
        cases h
        have q : ys[j]? = some x := slotOf_at e2
        simpa using q
def okName (x : Str) : Bool := !(x == ("__debug__" : Str)) && !(x == ("__classdict__" : Str))
theorem okName_d {x : Str} (h : okName x = true) : (x == ("__debug__" : Str)) = false ∧ (x == ("__classdict__" : Str)) = false := by
  unfold okName at h
  rw [Bool.and_eq_true, Bool.not_eq_true', Bool.not_eq_true'] at h
  exact h
def XcAll (X : Fx) (E : Ent) (mg : Str → Option Value) : Prop := ∀ (c : Nat) CC m fs, E.T.cls[c]? = some CC → CC.exc = some (m, fs) → m ≤ 1000 ∧ XcOk X mg c m fs
structure COk (X : Fx) (E : Ent) (n : Nat) (sc : SC) (C : Cx) (J : Jd) (xn : Option (Nat × List Nat × List PV)) : Prop where
  N : C.N = sc.N
  nd : C.N.Nodup
  sco : C.env.scope = sc.scope
  kind : C.env.scope.kind = .function
  fn : ∀ x, sc.fnB x = true → C.fn x = true
  K : C.K = X.K
  en : EntOk X E C.mg
  xc : XcAll X E C.mg
  un : C.A.units + 64 < cLine
  cx : sc.calm = true → CxOk X E n C
  own : sc.calm = true → sc.top = true → PassesOwn (model C.prog C.w) C.A C.env C.xe
  fr : sc.calm = true → sc.top = true → C.stack = C.env :: C.outer ∧ C.env.frame = some C.env.locals
  fix : J.fix = sc.xs
  j0 : sc.calm = true → J = J0
  su : ∀ i, sc.xs = some i → ∃ a cls d c ks vs, J = Jx X (some i) a cls d c ks vs ∧ InSu C a cls d ∧ xn = some (c, ks, vs)
abbrev Good (X : Fx) (E : Ent) (n : Nat) (C : Cx) (J : Jd) (xn : Option (Nat × List Nat × List PV)) (e : PySem.Expr) (ce : CE) : Prop := PEr X J C e (evE (Gn E n xn) ce) ∧ PTr X J C e (evE (Gn E n xn) ce)
/-- a compiler of expressions that tells the truth -/
def RecOk (X : Fx) (E : Ent) (n : Nat) (rec : SC → PySem.Expr → Option CE) : Prop := ∀ sc C J xn e ce, COk X E n sc C J xn → rec sc e = some ce → Good X E n C J xn e ce
section
variable {X : Fx} {E : Ent} {n : Nat} {sc : SC} {C : Cx} {J : Jd} {xn : Option (Nat × List Nat × List PV)} {e a b o : PySem.Expr} {ce ca cb co : CE} {es : List PySem.Expr} {ces : List CE} {pos : Pos} {rec : SC → PySem.Expr → Option CE}
theorem COk.gl (c : COk X E n sc C J xn) {x : Str} (h : sc.scope.names.lookup x = some .globalImplicit) : L2.Gl C x := by
  show C.env.scope.names.lookup x = _
  rw [c.sco]; exact h
theorem COk.calm (c : COk X E n sc C J xn) (h : sc.calm = true) : C.calm = true := (c.cx h).calm
def plainTest : PySem.Expr → Bool
  | .UnaryOp .Not _ _ => false
  | .BoolOp _ _ _ => false
  | .IfExp _ _ _ _ => false
  | .Compare _ _ _ _ => false
  | _ => true
theorem test_of (h : plainTest e = true) (env : Env) (whole : Sem Value) : isTrue e env whole = (do let v ← whole; standAt e.pos; holding [v] (truthy v)) := by
  cases e <;> first | rfl | cases h | skip
  rename_i op x p
  cases op <;> first | rfl | cases h
theorem good_val (hK : C.K = X.K) (hp : plainTest e = true) (h : PEr X J C e (evE (Gn E n xn) ce)) : Good X E n C J xn e ce := ⟨h, ptr_val hK h (test_of hp C.env)⟩
/-! ### names -/
def cName (E : Ent) (sc : SC) (x : Str) : Option CE :=
  if okName x = true then (match sc.scope.names.lookup x with
    | some .globalImplicit => (match E.globs.lookup x with
      | some (.con v) => some (.cst v)
      | _ => none)
    | some .local => (slotOf sc.N x).map .var
    | some .cell => (slotOf sc.N x).map .var
    | some .free => (slotOf sc.N x).map .var
    | _ => none) else none
theorem cName_ok (c : COk X E n sc C J xn) {x : Str} (h : cName E sc x = some ce) : PEr X J C (.Name x pos) (evE (Gn E n xn) ce) := by
  unfold cName at h
  by_cases hn : okName x = true
  · rw [if_pos hn] at h
    obtain ⟨d1, d2⟩ := okName_d hn
    have vr : ∀ {k : NameKind}, sc.scope.names.lookup x = some k → (k = .local ∨ k = .cell ∨ k = .free) → (slotOf sc.N x).map CE.var = some ce → PEr X J C (.Name x pos) (evE (Gn E n xn) ce) := fun {k} hk hk2 h => by
      cases e : slotOf sc.N x with
      | none => rw [e] at h; cases h
      | some i =>
        rw [e] at h
        cases h
        refine per_var (by rw [c.N]; exact slotOf_at e) ?_ d1 d2
        unfold Vis
        rw [c.sco, hk]
        rcases hk2 with rfl | rfl | rfl
        · exact .inl rfl
        · exact .inr (.inl rfl)
        · exact .inr (.inr rfl)
    cases hk : sc.scope.names.lookup x with
    | none => rw [hk] at h; cases h
    | some k =>
      rw [hk] at h
      cases k with
      | «local» => exact vr hk (.inl rfl) h
      | cell => exact vr hk (.inr (.inl rfl)) h
      | free => exact vr hk (.inr (.inr rfl)) h
      | globalExplicit => cases h
      | globalImplicit =>
        simp only at h
        cases e : E.globs.lookup x with
        | none => rw [e] at h; cases h
        | some g =>
          rw [e] at h
          cases g with
          | con v =>
            cases h
            obtain ⟨u, y, hm, r, rv⟩ := c.en.co x v e
            exact per_c (pe_glob (c.gl hk) hm r d1) rv
          | fn i => cases h
          | cls i => cases h
  · rw [if_neg hn] at h; cases h
def cConst : Const → Option CE
  | .none => some (.cst .non)
  | .bool b => some (.cst (.bl b))
  | .int i => some (.cst (.int i))
  | .str s => some (.cst (.str s))
  | _ => none
theorem cConst_ok {k : Const} {j : Nat} (h : cConst k = some ce) : PEr X J C (.Constant k j pos) (evE (Gn E n xn) ce) := by
  cases k <;> cases h
  · exact per_c pe_non fun L => .non
  · exact per_c pe_bl fun L => .bl _
  · exact per_c pe_int fun L => .int _
  · exact per_c pe_str fun L => .str _
/-! ### operators -/
def cBin : Operator → Option BOp
  | .Add => some .add
  | .Sub => some .sub
  | .Mult => some .mul
  | .Mod => some .mod
  | .FloorDiv => some .fdiv
  | .Pow => some .pow
  | .BitAnd => some .band
  | .BitXor => some .bxor
  | .LShift => some .shl
  | .RShift => some .shr
  | _ => none
theorem cBin_ok {op : Operator} {o : BOp} (h : cBin op = some o) : bopOf o = op := by cases op <;> cases h <;> rfl
def cCmp : CmpOp → Option COp
  | .Eq => some .eq
  | .NotEq => some .ne
  | .Lt => some .lt
  | .LtE => some .le
  | .Gt => some .gt
  | .GtE => some .ge
  | .In => some .inn
  | .NotIn => some .notin
  | .Is => some .is
  | .IsNot => some .isnot
theorem cCmp_ok {op : CmpOp} {o : COp} (h : cCmp op = some o) : copOf o = op := by cases op <;> cases h <;> rfl
/-! ### lists of expressions -/
theorem par_of (hr : RecOk X E n rec) (c : COk X E n sc C J xn) : ∀ {es : List PySem.Expr} {ces : List CE}, es.all noStar = true → omap (rec sc) es = some ces → PAr X J C es (evEs (Gn E n xn) ces) ∧ ces.length = es.length
  | [], ces, _, h => by cases h; exact ⟨par_nil, rfl⟩
  | e :: es, ces, hs, h => by
    have hs' : noStar e = true ∧ es.all noStar = true := by simpa using hs
    simp only [omap] at h
    cases e1 : rec sc e with
    | none => rw [e1] at h; cases h
    | some ce =>
      rw [e1] at h
      simp only at h
      cases e2 : omap (rec sc) es with
      | none => rw [e2] at h; cases h
      | some ces' =>
        rw [e2] at h
        cases h
        obtain ⟨q1, q2⟩ := par_of hr c hs'.2 e2
        exact ⟨par_cons hs'.1 (hr sc C J xn e ce c e1).1 q1, by simp [q2]⟩
def cArgs (rec : SC → PySem.Expr → Option CE) (sc : SC) (es : List PySem.Expr) : Option (List CE) := if es.all noStar = true then omap (rec sc) es else none
theorem cArgs_ok (hr : RecOk X E n rec) (c : COk X E n sc C J xn) {es : List PySem.Expr} {ces : List CE} (h : cArgs rec sc es = some ces) : es.all noStar = true ∧ PAr X J C es (evEs (Gn E n xn) ces) ∧ ces.length = es.length := by
  unfold cArgs at h
  by_cases hs : es.all noStar = true
  · rw [if_pos hs] at h
    exact ⟨hs, par_of hr c hs h⟩
  · rw [if_neg hs] at h; cases h
/-! ### and, or -/
def boolC : PySem.BoolOp → CE → CE → CE
  | .And, a, b => .and a b
  | .Or, a, b => .or a b
def cBool (rec : SC → PySem.Expr → Option CE) (sc : SC) (op : PySem.BoolOp) : List PySem.Expr → Option CE
  | [] => none
  | [a] => rec sc a
  | a :: r => match rec sc a with
    | some ca => (match cBool rec sc op r with
      | some cr => some (boolC op ca cr)
      | none => none)
    | none => none
theorem cBool_ok (hr : RecOk X E n rec) (c : COk X E n sc C J xn) {op : PySem.BoolOp} : ∀ {es : List PySem.Expr} {ce : CE}, cBool rec sc op es = some ce → PEr X J C (.BoolOp op es pos) (evE (Gn E n xn) ce) ∧ PWr X J C (.BoolOp op es pos) (evE (Gn E n xn) ce)
  | [], _, h => by cases h
  | [a], ce, h => by
    obtain ⟨q1, q2⟩ := hr sc C J xn a ce c h
    refine ⟨per_one q1, ?_⟩
    cases op
    · exact pwr_and1 q2
    · exact pwr_or1 q2
  | a :: b :: r, ce, h => by
    have h' : (match rec sc a with
      | some ca => (match cBool rec sc op (b :: r) with
        | some cr => some (boolC op ca cr)
        | none => none)
      | none => none) = some ce := h
    cases e1 : rec sc a with
    | none => rw [e1] at h'; cases h'
    | some ca =>
      rw [e1] at h'
      simp only at h'
      cases e2 : cBool rec sc op (b :: r) with
      | none => rw [e2] at h'; cases h'
      | some cr =>
        rw [e2] at h'
        obtain ⟨q1, q2⟩ := hr sc C J xn a ca c e1
        obtain ⟨r1, r2⟩ := cBool_ok hr c e2
        cases op <;> cases h'
        · exact ⟨per_and c.K q1 r1, pwr_and q2 r2⟩
        · exact ⟨per_or c.K q1 r1, pwr_or q2 r2⟩
/-! ### attributes -/
def cAttr (E : Ent) (rec : SC → PySem.Expr → Option CE) (sc : SC) (o : PySem.Expr) (f : Str) : Option CE := match slotOf E.atts f with
  | some k => (match o with
    | .Name x _ => (match sc.xs with
      | some i => if slotOf sc.N x = some i then (if okName x = true ∧ (sc.scope.names.lookup x = some .local) then some (.xat k) else none) else (rec sc o).map (.attr k)
      | none => (rec sc o).map (.attr k))
    | o => if notCall0 o = true then (rec sc o).map (.attr k) else none)
  | none => none
theorem map_some {α β : Type} {f : α → β} {x : Option α} {y : β} (h : x.map f = some y) : ∃ a, x = some a ∧ f a = y := by
  cases x with
  | none => cases h
  | some a => cases h; exact ⟨a, rfl, rfl⟩
theorem cAttr_ok (hr : RecOk X E n rec) (c : COk X E n sc C J xn) {f : Str} (h : cAttr E rec sc o f = some ce) : PEr X J C (.Attribute o f pos) (evE (Gn E n xn) ce) := by
  unfold cAttr at h
  cases hk : slotOf E.atts f with
  | none => rw [hk] at h; cases h
  | some k =>
    rw [hk] at h
    simp only at h
    have ef : X.aN k = f := c.en.at_ k f (slotOf_at hk)
    have pl : notCall0 o = true → (rec sc o).map (CE.attr k) = some ce → PEr X J C (.Attribute o f pos) (evE (Gn E n xn) ce) := fun hn h => by
      obtain ⟨co, e1, rfl⟩ := map_some h
      rw [← ef]
      exact per_attr c.K hn (hr sc C J xn o co c e1).1
    cases o <;> try (simp only at h; split at h; · exact pl (by assumption) h
                     · cases h)
    rename_i x p
    simp only at h
    cases hx : sc.xs with
    | none => rw [hx] at h; exact pl rfl h
    | some i =>
      rw [hx] at h
      simp only at h
      by_cases h1 : slotOf sc.N x = some i
      · rw [if_pos h1] at h
        by_cases h2 : okName x = true ∧ sc.scope.names.lookup x = some .local
        · rw [if_pos h2] at h
          cases h
          obtain ⟨d1, d2⟩ := okName_d h2.1
          obtain ⟨a, cls, d, cc, ks, vs, rfl, su, rfl⟩ := c.su i hx
          rw [← ef]
          exact per_xat (G := Gn E n none) c.K su (by rw [c.N]; exact slotOf_at h1) (.inl (by rw [c.sco]; exact h2.2)) d1 d2
        · rw [if_neg h2] at h; cases h
      · rw [if_neg h1] at h; exact pl rfl h
end
end Ev

set_option Elab.async false
set_option linter.all false
set_option maxRecDepth 100000
set_option maxHeartbeats 4000000
/-! Calls, what is walked, comprehensions; one step of the compiler. -/
namespace Ev
open PySem PySem.Spec PyProof.Rows L2
section
variable {X : Fx} {E : Ent} {n : Nat} {sc : SC} {C : Cx} {J : Jd} {xn : Option (Nat × List Nat × List PV)} {e a b o tg it : PySem.Expr} {ce ca cb co : CE} {es : List PySem.Expr} {ces : List CE} {pos : Pos} {rec : SC → PySem.Expr → Option CE}
/-! ### own defs -/
def kwNames : List Keyword → Option (List Str)
  | [] => some []
  | ⟨some k, _, _⟩ :: r => (kwNames r).map (k :: ·)
  | _ :: _ => none
theorem kw_ok {env : Env} : ∀ {kws : List Keyword} {ks : List Str}, kwNames kws = some ks →
    (backToKw pos (keywordEach kws env)).all (·.1.isSome) = true ∧ (backToKw pos (keywordEach kws env)).filterMap (·.1) = ks ∧ (backToKw pos (keywordEach kws env)).any (·.1.isNone) = false
  | [], ks, h => by cases h; exact ⟨rfl, rfl, rfl⟩
  | ⟨some k, e, p⟩ :: r, ks, h => by
    obtain ⟨ks', e1, rfl⟩ := map_some h
    obtain ⟨h1, h2, h3⟩ := kw_ok (env := env) e1
    have e2 : backToKw pos (keywordEach (⟨some k, e, p⟩ :: r) env) = (some k, do let v ← eval e env; standAt pos; pure v) :: backToKw pos (keywordEach r env) := rfl
    rw [e2]
    refine ⟨by rw [List.all_cons, h1]; rfl, by rw [List.filterMap_cons, h2], by rw [List.any_cons, h3]; rfl⟩
  | ⟨none, _, _⟩ :: _, _, h => by cases h
theorem pkr_of (hr : RecOk X E n rec) (c : COk X E n sc C J xn) : ∀ {kws : List Keyword} {cws : List CE}, omap (fun k : Keyword => rec sc k.value) kws = some cws → PKr X J C kws (evEs (Gn E n xn) cws) ∧ cws.length = kws.length
  | [], cws, h => by cases h; exact ⟨pkr_nil, rfl⟩
  | ⟨nm, e, p⟩ :: r, cws, h => by
    simp only [omap] at h
    cases e1 : rec sc e with
    | none => rw [e1] at h; cases h
    | some ce =>
      rw [e1] at h
      simp only at h
      cases e2 : omap (fun k : Keyword => rec sc k.value) r with
      | none => rw [e2] at h; cases h
      | some cws' =>
        rw [e2] at h
        cases h
        obtain ⟨q1, q2⟩ := pkr_of hr c e2
        exact ⟨pkr_cons (hr sc C J xn e ce c e1).1 q1, by simp [q2]⟩
theorem kwNames_len : ∀ {kws : List Keyword} {ks : List Str}, kwNames kws = some ks → ks.length = kws.length
  | [], ks, h => by cases h; rfl
  | ⟨some k, e, p⟩ :: r, ks, h => by
    obtain ⟨ks', e1, rfl⟩ := map_some h
    simp [kwNames_len e1]
  | ⟨none, _, _⟩ :: _, _, h => by cases h
def cOwn (E : Ent) (rec : SC → PySem.Expr → Option CE) (sc : SC) (i : Nat) (args : List PySem.Expr) (kws : List Keyword) : Option CE := if sc.calm = true then (match E.sig[i]? with
  | some (ps, dp) => (match args with
    | [] => (match kws with
      | [] => if bOk ps 0 [] dp.length = true then some (.callB i [] (codes ps 0 [] dp.length) dp) else none
      | _ => none)
    | e :: es => (match cArgs rec sc (e :: es) with
      | some ces => (match kws with
        | [] => if (e :: es).length = ps.length then some (.call i ces) else if bOk ps (e :: es).length [] dp.length = true then some (.callB i (ces ++ []) (codes ps (e :: es).length [] dp.length) dp) else none
        | kw :: kws => (match kwNames (kw :: kws) with
          | some ks => (match omap (fun k : Keyword => rec sc k.value) (kw :: kws) with
            | some cws => if bOk ps (e :: es).length ks dp.length = true then some (.callB i (ces ++ cws) (codes ps (e :: es).length ks dp.length) dp) else none
            | none => none)
          | none => none))
      | none => none))
  | none => none) else none
theorem cOwn_ok (hr : RecOk X E n rec) (c : COk X E n sc C J xn) {i : Nat} {x : Str} {p : Pos} {args : List PySem.Expr} {kws : List Keyword} (hn : okName x = true) (hk : sc.scope.names.lookup x = some .globalImplicit) (hx : E.globs.lookup x = some (.fn i)) (h : cOwn E rec sc i args kws = some ce) :
    PEr X J C (.Call (.Name x p) args kws pos) (evE (Gn E n xn) ce) := by
  obtain ⟨d1, d2⟩ := okName_d hn
  unfold cOwn at h
  by_cases hc : sc.calm = true
  · rw [if_pos hc] at h
    have cx := c.cx hc
    cases hs : E.sig[i]? with
    | none => rw [hs] at h; cases h
    | some pd =>
      obtain ⟨ps, dp⟩ := pd
      rw [hs] at h
      simp only at h
      obtain ⟨D, hD, rfl, hdl, hdv⟩ := c.en.sg i ps dp hs
      rw [← hdl] at h
      cases args with
      | nil =>
        cases kws with
        | nil =>
          simp only at h
          by_cases hb : bOk D.ps 0 [] D.dvs.length = true
          · rw [if_pos hb] at h; cases h
            exact per_call0 cx (c.gl hk) hx d1 hD hb hdv
          · rw [if_neg hb] at h; cases h
        | cons => cases h
      | cons e es =>
        simp only at h
        cases ha : cArgs rec sc (e :: es) with
        | none => rw [ha] at h; cases h
        | some ces =>
          rw [ha] at h
          simp only at h
          obtain ⟨hst, hpa, hl⟩ := cArgs_ok hr c ha
          cases kws with
          | nil =>
            simp only at h
            by_cases h1 : (e :: es).length = D.ps.length
            · rw [if_pos h1] at h; cases h
              exact per_call cx (c.gl hk) hx d1 hD h1 hdv hst hpa hl
            · rw [if_neg h1] at h
              by_cases hb : bOk D.ps (e :: es).length [] D.dvs.length = true
              · rw [if_pos hb] at h; cases h
                exact per_callKw (ks := []) (cws := []) cx (c.gl hk) hx d1 hD hb hdv rfl hst hpa pkr_nil hl rfl rfl rfl
              · rw [if_neg hb] at h; cases h
          | cons kw kws =>
            simp only at h
            cases h2 : kwNames (kw :: kws) with
            | none => rw [h2] at h; cases h
            | some ks =>
              rw [h2] at h
              simp only at h
              cases h3 : omap (fun k : Keyword => rec sc k.value) (kw :: kws) with
              | none => rw [h3] at h; cases h
              | some cws =>
                rw [h3] at h
                simp only at h
                obtain ⟨q1, q2⟩ := pkr_of hr c h3
                by_cases hb : bOk D.ps (e :: es).length ks D.dvs.length = true
                · rw [if_pos hb] at h; cases h
                  obtain ⟨k1, k2, k3⟩ := kw_ok (pos := pos) (env := C.env) h2
                  exact per_callKw cx (c.gl hk) hx d1 hD hb hdv (by rw [q2, kwNames_len h2]) hst hpa q1 hl k1 k2 k3
                · rw [if_neg hb] at h; cases h
  · rw [if_neg hc] at h; cases h
def cMake (E : Ent) (rec : SC → PySem.Expr → Option CE) (sc : SC) (cl : Nat) (args : List PySem.Expr) (kws : List Keyword) : Option CE := if sc.calm = true then (match E.T.cls[cl]? with
  | some CC => (match CC.init with
    | some _ => (match kws with
      | [] => (match args with
        | [] => some (.make cl [])
        | e :: es => (cArgs rec sc (e :: es)).map (.make cl))
      | _ => none)
    | none => none)
  | none => none) else none
theorem cMake_ok (hr : RecOk X E n rec) (c : COk X E n sc C J xn) {cl : Nat} {x : Str} {p : Pos} {args : List PySem.Expr} {kws : List Keyword} (hn : okName x = true) (hk : sc.scope.names.lookup x = some .globalImplicit) (hx : E.globs.lookup x = some (.cls cl)) (h : cMake E rec sc cl args kws = some ce) :
    PEr X J C (.Call (.Name x p) args kws pos) (evE (Gn E n xn) ce) := by
  obtain ⟨d1, d2⟩ := okName_d hn
  unfold cMake at h
  by_cases hc : sc.calm = true
  · rw [if_pos hc] at h
    have cx := c.cx hc
    cases hC : E.T.cls[cl]? with
    | none => rw [hC] at h; cases h
    | some CC =>
      rw [hC] at h
      simp only at h
      cases hf : CC.init with
      | none => rw [hf] at h; cases h
      | some f =>
        rw [hf] at h
        simp only at h
        cases kws with
        | cons => cases h
        | nil =>
          cases args with
          | nil => cases h; exact per_make0 cx (c.gl hk) hx d1 hC hf
          | cons e es =>
            obtain ⟨ces, ha, rfl⟩ := map_some h
            obtain ⟨hst, hpa, hl⟩ := cArgs_ok hr c ha
            exact per_make cx (c.gl hk) hx d1 hC hf hst hpa
  · rw [if_neg hc] at h; cases h
/-! ### built-in ones -/
theorem COk.blt (c : COk X E n sc C J xn) {x : Str} (hk : sc.scope.names.lookup x = some .globalImplicit) (hx : E.globs.lookup x = none) (hm : x ∈ bltNames) : L2.Gl C x ∧ C.mg x = none := ⟨c.gl hk, c.en.no x hm hx⟩
def tyName (x : Str) : Option Ty :=
  if x = "bool" then some .bool else if x = "int" then some .int else if x = "str" then some .str else if x = "list" then some .list else if x = "tuple" then some .tuple else if x = "dict" then some .dict else if x = "ValueError" then some .verr else none
def cTy (E : Ent) (sc : SC) : PySem.Expr → Option Ty
  | .Name x _ => if okName x = true ∧ sc.scope.names.lookup x = some .globalImplicit then (match E.globs.lookup x with
    | some (.cls c) => some (.own c)
    | none => tyName x
    | _ => none) else none
  | _ => none
theorem cTy_ok (c : COk X E n sc C J xn) {t : Ty} (h : cTy E sc e = some t) : PTy X C e t := by
  cases e <;> try cases h
  rename_i x p
  unfold cTy at h
  simp only at h
  by_cases h1 : okName x = true ∧ sc.scope.names.lookup x = some .globalImplicit
  · rw [if_pos h1] at h
    obtain ⟨d1, d2⟩ := okName_d h1.1
    cases hg : E.globs.lookup x with
    | some g =>
      rw [hg] at h
      cases g with
      | cls cl =>
        cases h
        obtain ⟨q1, q2⟩ := c.en.cl x cl hg
        exact ⟨q2, pe_glob (c.gl h1.2) q1 (show RelV (.ref _) (.ref _) from rfl) d1, rfl⟩
      | fn i => cases h
      | con v => cases h
    | none =>
      rw [hg] at h
      simp only [tyName] at h
      split at h
      · subst x; cases h
        obtain ⟨q1, q2⟩ := c.blt h1.2 hg (by decide)
        exact ⟨trivial, pe_bltn q1 q2 (show bootBuiltins "bool" = some (.type "bool") by decide +kernel) rfl, rfl⟩
      split at h
      · subst x; cases h
        obtain ⟨q1, q2⟩ := c.blt h1.2 hg (by decide)
        exact ⟨trivial, pe_bltn q1 q2 (show bootBuiltins "int" = some (.type "int") by decide +kernel) rfl, rfl⟩
      split at h
      · subst x; cases h
        obtain ⟨q1, q2⟩ := c.blt h1.2 hg (by decide)
        exact ⟨trivial, pe_bltn q1 q2 (show bootBuiltins "str" = some (.type "str") by decide +kernel) rfl, rfl⟩
      split at h
      · subst x; cases h
        obtain ⟨q1, q2⟩ := c.blt h1.2 hg (by decide)
        exact ⟨trivial, pe_bltn q1 q2 (show bootBuiltins "list" = some (.type "list") by decide +kernel) rfl, rfl⟩
      split at h
      · subst x; cases h
        obtain ⟨q1, q2⟩ := c.blt h1.2 hg (by decide)
        exact ⟨trivial, pe_bltn q1 q2 (show bootBuiltins "tuple" = some (.type "tuple") by decide +kernel) rfl, rfl⟩
      split at h
      · subst x; cases h
        obtain ⟨q1, q2⟩ := c.blt h1.2 hg (by decide)
        exact ⟨trivial, pe_bltn q1 q2 (show bootBuiltins "dict" = some (.type "dict") by decide +kernel) rfl, rfl⟩
      split at h
      · subst x; cases h
        obtain ⟨q1, q2⟩ := c.blt h1.2 hg (by decide)
        exact ⟨trivial, pe_bltn q1 q2 (show bootBuiltins "ValueError" = some (.type "ValueError") by decide +kernel) rfl, rfl⟩
      · cases h
  · rw [if_neg h1] at h; cases h
theorem cTys_ok (c : COk X E n sc C J xn) : ∀ {es : List PySem.Expr} {ts : List Ty}, omap (cTy E sc) es = some ts → PTys X C es ts
  | [], ts, h => by cases h; trivial
  | e :: es, ts, h => by
    simp only [omap] at h
    cases e1 : cTy E sc e with
    | none => rw [e1] at h; cases h
    | some t =>
      rw [e1] at h
      simp only at h
      cases e2 : omap (cTy E sc) es with
      | none => rw [e2] at h; cases h
      | some ts' =>
        rw [e2] at h
        cases h
        exact ⟨cTy_ok c e1, cTys_ok c e2⟩
/-- the name that a suite's exception has -/
def isExc (sc : SC) : PySem.Expr → Bool
  | .Name x _ => (match sc.xs with
    | some i => decide (slotOf sc.N x = some i)
    | none => false)
  | _ => false
def cIsin (E : Ent) (rec : SC → PySem.Expr → Option CE) (sc : SC) (a t : PySem.Expr) : Option CE :=
  if noStar a = true then (match isExc sc a with
    | true => (match a with
      | .Name x _ => if okName x = true ∧ sc.scope.names.lookup x = some .local then (cTy E sc t).map (fun t => .xis [t]) else none
      | _ => none)
    | false => (match t with
      | .Tuple (e :: es) _ _ => (match omap (cTy E sc) (e :: es) with
        | some ts => if ts.length ≤ 1000 then (rec sc a).map (.isin · ts) else none
        | none => none)
      | t => (match cTy E sc t with
        | some t => (rec sc a).map (.isin · [t])
        | none => none))) else none
theorem cIsin_ok (hr : RecOk X E n rec) (c : COk X E n sc C J xn) {t : PySem.Expr} {p : Pos} (hk : sc.scope.names.lookup ("isinstance" : Str) = some .globalImplicit) (hx : E.globs.lookup ("isinstance" : Str) = none) (h : cIsin E rec sc a t = some ce) :
    PEr X J C (.Call (.Name "isinstance" p) [a, t] [] pos) (evE (Gn E n xn) ce) := by
  obtain ⟨q1, q2⟩ := c.blt hk hx (by decide)
  unfold cIsin at h
  by_cases hs : noStar a = true
  · rw [if_pos hs] at h
    cases hE : isExc sc a with
    | true =>
      rw [hE] at h
      cases a <;> try cases h
      rename_i x px
      simp only at h
      by_cases h1 : okName x = true ∧ sc.scope.names.lookup x = some .local
      · rw [if_pos h1] at h
        obtain ⟨t', e1, rfl⟩ := map_some h
        obtain ⟨d1, d2⟩ := okName_d h1.1
        unfold isExc at hE
        cases hxs : sc.xs with
        | none => rw [hxs] at hE; cases hE
        | some i =>
          rw [hxs] at hE
          have hi : slotOf sc.N x = some i := of_decide_eq_true hE
          obtain ⟨a', cls, d, cc, ks, vs, rfl, su, rfl⟩ := c.su i hxs
          exact per_xis (G := Gn E n none) (c.en.is n none) c.K su q1 q2 (by rw [c.N]; exact slotOf_at hi) (.inl (by rw [c.sco]; exact h1.2)) d1 d2 (cTy_ok c e1)
      · rw [if_neg h1] at h; cases h
    | false =>
      rw [hE] at h
      simp only at h
      have one : ∀ {t : PySem.Expr}, (match cTy E sc t with
          | some t => (rec sc a).map (CE.isin · [t])
          | none => none) = some ce → PEr X J C (.Call (.Name "isinstance" p) [a, t] [] pos) (evE (Gn E n xn) ce) := fun {t} h => by
        cases e1 : cTy E sc t with
        | none => rw [e1] at h; cases h
        | some t' =>
          rw [e1] at h
          obtain ⟨ca, e2, rfl⟩ := map_some h
          exact per_isin (c.en.is n xn) c.K q1 q2 (hr sc C J xn a ca c e2).1 hs (cTy_ok c e1)
      cases t <;> try exact one h
      rename_i es k p2
      cases es with
      | nil => exact one h
      | cons e es =>
        simp only at h
        cases e1 : omap (cTy E sc) (e :: es) with
        | none => rw [e1] at h; cases h
        | some ts =>
          rw [e1] at h
          simp only at h
          by_cases hl : ts.length ≤ 1000
          · rw [if_pos hl] at h
            obtain ⟨ca, e2, rfl⟩ := map_some h
            cases ts with
            | nil =>
              have := omap_len e1
              simp at this
            | cons t ts => exact per_isinT (c.en.is n xn) c.K q1 q2 (hr sc C J xn a ca c e2).1 hs (cTys_ok c e1) hl
          · rw [if_neg hl] at h; cases h
  · rw [if_neg hs] at h; cases h
def bltOf (x : Str) : Option Blt :=
  if x = "len" then some .len else if x = "abs" then some .abs else if x = "int" then some .int else if x = "tuple" then some .tuple else if x = "list" then some .list else if x = "sum" then some .sum else if x = "any" then some .any
  else if x = "all" then some .all else if x = "max" then some .max else if x = "min" then some .min else if x = "sorted" then some .sorted else none
def bltCalm : Blt → Bool
  | .sum => true
  | .any => true
  | .all => true
  | .max => true
  | .min => true
  | _ => false
theorem bltOf_ok (c : COk X E n sc C J xn) {x : Str} {p : Pos} {bt : Blt} (hk : sc.scope.names.lookup x = some .globalImplicit) (hx : E.globs.lookup x = none) (h : bltOf x = some bt) (hc : bltCalm bt = true → C.calm = true) (hs : (e :: es).all noStar = true) (ha : PAr X J C (e :: es) (evEs (Gn E n xn) ces)) :
    PEr X J C (.Call (.Name x p) (e :: es) [] pos) (evE (Gn E n xn) (.blt bt ces)) := by
  have hK := c.K
  simp only [bltOf] at h
  split at h
  · subst x; cases h
    obtain ⟨q1, q2⟩ := c.blt hk hx (by decide)
    exact per_callB (fun W tk => crr_len hK) q1 q2 (by decide +kernel) (by decide) (by decide) hs ha
  split at h
  · subst x; cases h
    obtain ⟨q1, q2⟩ := c.blt hk hx (by decide)
    exact per_callB (fun W tk => crr_abs) q1 q2 (by decide +kernel) (by decide) (by decide) hs ha
  split at h
  · subst x; cases h
    obtain ⟨q1, q2⟩ := c.blt hk hx (by decide)
    exact per_callTy (fun W tk => crr_int) q1 q2 (by decide +kernel) (by decide) (by decide) hs ha
  split at h
  · subst x; cases h
    obtain ⟨q1, q2⟩ := c.blt hk hx (by decide)
    exact per_callTy (fun W tk => crr_tuple hK) q1 q2 (by decide +kernel) (by decide) (by decide) hs ha
  split at h
  · subst x; cases h
    obtain ⟨q1, q2⟩ := c.blt hk hx (by decide)
    exact per_callTy (fun W tk => crr_list hK) q1 q2 (by decide +kernel) (by decide) (by decide) hs ha
  split at h
  · subst x; cases h
    obtain ⟨q1, q2⟩ := c.blt hk hx (by decide)
    exact per_callB (fun W tk => crr_sum hK (hc rfl)) q1 q2 (by decide +kernel) (by decide) (by decide) hs ha
  split at h
  · subst x; cases h
    obtain ⟨q1, q2⟩ := c.blt hk hx (by decide)
    exact per_callB (fun W tk => crr_any hK (hc rfl)) q1 q2 (by decide +kernel) (by decide) (by decide) hs ha
  split at h
  · subst x; cases h
    obtain ⟨q1, q2⟩ := c.blt hk hx (by decide)
    exact per_callB (fun W tk => crr_all hK (hc rfl)) q1 q2 (by decide +kernel) (by decide) (by decide) hs ha
  split at h
  · subst x; cases h
    obtain ⟨q1, q2⟩ := c.blt hk hx (by decide)
    exact per_callB (fun W tk => crr_max hK (hc rfl)) q1 q2 (by decide +kernel) (by decide) (by decide) hs ha
  split at h
  · subst x; cases h
    obtain ⟨q1, q2⟩ := c.blt hk hx (by decide)
    exact per_callB (fun W tk => crr_min hK (hc rfl)) q1 q2 (by decide +kernel) (by decide) (by decide) hs ha
  split at h
  · subst x; cases h
    obtain ⟨q1, q2⟩ := c.blt hk hx (by decide)
    exact per_callB (fun W tk => crr_sorted hK) q1 q2 (by decide +kernel) (by decide) (by decide) hs ha
  · cases h
end
end Ev

set_option Elab.async false
set_option linter.all false
set_option maxRecDepth 100000
set_option maxHeartbeats 4000000
/-! Methods, what is walked, comprehensions; one step of the compiler. -/
namespace Ev
open PySem PySem.Spec PyProof.Rows L2
section
variable {X : Fx} {E : Ent} {n : Nat} {sc : SC} {C : Cx} {J : Jd} {xn : Option (Nat × List Nat × List PV)} {e a b o tg it : PySem.Expr} {ce ca cb co : CE} {es : List PySem.Expr} {ces : List CE} {pos : Pos} {rec : SC → PySem.Expr → Option CE}
/-- tuple(range(..)), list(range(..)) -/
def cConv (E : Ent) (rec : SC → PySem.Expr → Option CE) (sc : SC) (bt : Blt) (rargs : List PySem.Expr) : Option CE := if sc.calm = true ∧ sc.scope.names.lookup ("range" : Str) = some .globalImplicit ∧ E.globs.lookup ("range" : Str) = none then (match rargs with
  | [a] => if noStar a = true then (rec sc a).map fun ca => .bltI bt (.rng [ca]) else none
  | [a, b] => if noStar a = true ∧ noStar b = true then (match rec sc a with
    | some ca => (rec sc b).map fun cb => .bltI bt (.rng [ca, cb])
    | none => none) else none
  | _ => none) else none
def isRange : PySem.Expr → Option (List PySem.Expr)
  | .Call (.Name x _) rargs [] _ => if x = ("range" : Str) then some rargs else none
  | _ => none
theorem isRange_ok {rargs : List PySem.Expr} (h : isRange e = some rargs) : ∃ p p2, e = .Call (.Name "range" p) rargs [] p2 := by
  cases e <;> try cases h
  rename_i f args kws p2
  cases f <;> try cases h
  rename_i x p
  cases kws with
  | cons => cases h
  | nil =>
    simp only [isRange] at h
    by_cases hx : x = ("range" : Str)
    · rw [if_pos hx] at h; cases h; subst hx; exact ⟨p, p2, rfl⟩
    · rw [if_neg hx] at h; cases h
def convOf (x : Str) : Option Blt := if x = "tuple" then some .tuple else if x = "list" then some .list else none
theorem cConv_ok (hr : RecOk X E n rec) (c : COk X E n sc C J xn) {x : Str} {p p2 p3 : Pos} {bt : Blt} {rargs : List PySem.Expr} (hk : sc.scope.names.lookup x = some .globalImplicit) (hx : E.globs.lookup x = none) (hb : convOf x = some bt) (h : cConv E rec sc bt rargs = some ce) :
    PEr X J C (.Call (.Name x p) [.Call (.Name "range" p2) rargs [] p3] [] pos) (evE (Gn E n xn) ce) := by
  unfold cConv at h
  by_cases h1 : sc.calm = true ∧ sc.scope.names.lookup ("range" : Str) = some .globalImplicit ∧ E.globs.lookup ("range" : Str) = none
  · rw [if_pos h1] at h
    obtain ⟨hc, hk2, hx2⟩ := h1
    obtain ⟨r1, r2⟩ := c.blt hk2 hx2 (by decide)
    have hcalm := c.calm hc
    match rargs, h with
    | [a], h =>
      simp only at h
      by_cases hs : noStar a = true
      · rw [if_pos hs] at h
        obtain ⟨ca, e1, rfl⟩ := map_some h
        have qa := (hr sc C J xn a ca c e1).1
        simp only [convOf] at hb
        split at hb
        · subst x; cases hb
          obtain ⟨q1, q2⟩ := c.blt hk hx (by decide)
          exact per_tupRg1 hcalm q1 q2 r1 r2 hs qa
        split at hb
        · subst x; cases hb
          obtain ⟨q1, q2⟩ := c.blt hk hx (by decide)
          exact per_lstRg1 hcalm q1 q2 r1 r2 hs qa
        · cases hb
      · rw [if_neg hs] at h; cases h
    | [a, b], h =>
      simp only at h
      by_cases hs : noStar a = true ∧ noStar b = true
      · rw [if_pos hs] at h
        cases e1 : rec sc a with
        | none => rw [e1] at h; cases h
        | some ca =>
          rw [e1] at h
          obtain ⟨cb, e2, rfl⟩ := map_some h
          have qa := (hr sc C J xn a ca c e1).1
          have qb := (hr sc C J xn b cb c e2).1
          simp only [convOf] at hb
          split at hb
          · subst x; cases hb
            obtain ⟨q1, q2⟩ := c.blt hk hx (by decide)
            exact per_tupRg2 hcalm q1 q2 r1 r2 hs.1 hs.2 qa qb
          split at hb
          · subst x; cases hb
            obtain ⟨q1, q2⟩ := c.blt hk hx (by decide)
            exact per_lstRg2 hcalm q1 q2 r1 r2 hs.1 hs.2 qa qb
          · cases hb
      · rw [if_neg hs] at h; cases h
    | [], h => cases h
    | _ :: _ :: _ :: _, h => cases h
  · rw [if_neg h1] at h; cases h
def cBlt (E : Ent) (rec : SC → PySem.Expr → Option CE) (sc : SC) (x : Str) (args : List PySem.Expr) : Option CE := match args with
  | [] => none
  | e :: es =>
    if x = "isinstance" then (match es with
      | [t] => cIsin E rec sc e t
      | _ => none)
    else (match convOf x, isRange e, es with
      | some bt, some rargs, [] => cConv E rec sc bt rargs
      | _, _, _ => (match bltOf x with
        | some bt => if bltCalm bt = true → sc.calm = true then (cArgs rec sc (e :: es)).map (.blt bt) else none
        | none => none))
theorem cBlt_ok (hr : RecOk X E n rec) (c : COk X E n sc C J xn) {x : Str} {p : Pos} {args : List PySem.Expr} (hk : sc.scope.names.lookup x = some .globalImplicit) (hx : E.globs.lookup x = none) (h : cBlt E rec sc x args = some ce) :
    PEr X J C (.Call (.Name x p) args [] pos) (evE (Gn E n xn) ce) := by
  cases args with
  | nil => cases h
  | cons e es =>
    simp only [cBlt] at h
    by_cases h1 : x = "isinstance"
    · rw [if_pos h1] at h
      subst h1
      match es, h with
      | [t], h => exact cIsin_ok hr c hk hx h
      | [], h => cases h
      | _ :: _ :: _, h => cases h
    · rw [if_neg h1] at h
      have gen : (match bltOf x with
        | some bt => if bltCalm bt = true → sc.calm = true then (cArgs rec sc (e :: es)).map (CE.blt bt) else none
        | none => none) = some ce → PEr X J C (.Call (.Name x p) (e :: es) [] pos) (evE (Gn E n xn) ce) := fun h => by
        cases hb : bltOf x with
        | none => rw [hb] at h; cases h
        | some bt =>
          rw [hb] at h
          simp only at h
          by_cases hc : bltCalm bt = true → sc.calm = true
          · rw [if_pos hc] at h
            obtain ⟨ces, ha, rfl⟩ := map_some h
            obtain ⟨hst, hpa, hl⟩ := cArgs_ok hr c ha
            exact bltOf_ok c hk hx hb (fun z => c.calm (hc z)) hst hpa
          · rw [if_neg hc] at h; cases h
      cases h2 : convOf x with
      | none => rw [h2] at h; exact gen h
      | some bt =>
        rw [h2] at h
        cases h3 : isRange e with
        | none => rw [h3] at h; exact gen h
        | some rargs =>
          rw [h3] at h
          cases es with
          | cons => exact gen h
          | nil =>
            obtain ⟨p2, p3, rfl⟩ := isRange_ok h3
            exact cConv_ok hr c hk hx h2 h
/-! ### methods -/
def cMeth (E : Ent) (rec : SC → PySem.Expr → Option CE) (sc : SC) (o : PySem.Expr) (m : Str) (args : List PySem.Expr) (kws : List Keyword) (apos pos : Pos) : Option CE :=
  if notCall0 o = true ∧ (apos.endLine == pos.line) = true ∧ kws = [] ∧ args.length < 28 then (match rec sc o with
    | some co =>
      if m = "append" then (match args with
        | [e] => if noStar e = true then (rec sc e).map fun ce => .lm .append co [ce] else none
        | _ => none)
      else if m = "pop" then (match args with
        | [] => some (.lm .pop co [])
        | _ => none)
      else if sc.calm = true then (match slotOf E.atts m with
        | some k => (match args with
          | [] => some (.meth k co [])
          | e :: es => (cArgs rec sc (e :: es)).map (.meth k co))
        | none => none)
      else none
    | none => none) else none
theorem cMeth_ok (hr : RecOk X E n rec) (c : COk X E n sc C J xn) {m : Str} {args : List PySem.Expr} {kws : List Keyword} {apos : Pos} (h : cMeth E rec sc o m args kws apos pos = some ce) :
    PEr X J C (.Call (.Attribute o m apos) args kws pos) (evE (Gn E n xn) ce) := by
  unfold cMeth at h
  by_cases h1 : notCall0 o = true ∧ (apos.endLine == pos.line) = true ∧ kws = [] ∧ args.length < 28
  · rw [if_pos h1] at h
    obtain ⟨hn, hl, rfl, hlen⟩ := h1
    cases e1 : rec sc o with
    | none => rw [e1] at h; cases h
    | some co =>
      rw [e1] at h
      simp only at h
      have qo := (hr sc C J xn o co c e1).1
      by_cases h2 : m = "append"
      · rw [if_pos h2] at h
        subst h2
        match args, h with
        | [e], h =>
          simp only at h
          by_cases hs : noStar e = true
          · rw [if_pos hs] at h
            obtain ⟨ce', e2, rfl⟩ := map_some h
            exact per_append hn hl hs qo (hr sc C J xn e ce' c e2).1
          · rw [if_neg hs] at h; cases h
        | [], h => cases h
        | _ :: _ :: _, h => cases h
      · rw [if_neg h2] at h
        by_cases h3 : m = "pop"
        · rw [if_pos h3] at h
          subst h3
          match args, h with
          | [], h => cases h; exact per_pop hn hl qo
          | _ :: _, h => cases h
        · rw [if_neg h3] at h
          by_cases hc : sc.calm = true
          · rw [if_pos hc] at h
            cases hk : slotOf E.atts m with
            | none => rw [hk] at h; cases h
            | some k =>
              rw [hk] at h
              simp only at h
              have em : X.aN k = m := c.en.at_ k m (slotOf_at hk)
              rw [← em]
              cases args with
              | nil => cases h; exact per_meth0 (c.cx hc) hn hl qo
              | cons e es =>
                obtain ⟨ces, ha, rfl⟩ := map_some h
                obtain ⟨hst, hpa, _⟩ := cArgs_ok hr c ha
                exact per_meth (c.cx hc) hn hl hst hlen qo hpa
          · rw [if_neg hc] at h; cases h
  · rw [if_neg h1] at h; cases h
def cCall (E : Ent) (rec : SC → PySem.Expr → Option CE) (sc : SC) (f : PySem.Expr) (args : List PySem.Expr) (kws : List Keyword) (pos : Pos) : Option CE := match f with
  | .Name x _ => if okName x = true ∧ sc.scope.names.lookup x = some .globalImplicit then (match E.globs.lookup x with
    | some (.fn i) => cOwn E rec sc i args kws
    | some (.cls cl) => cMake E rec sc cl args kws
    | some (.con _) => none
    | none => (match kws with
      | [] => cBlt E rec sc x args
      | _ => none)) else none
  | .Attribute o m apos => cMeth E rec sc o m args kws apos pos
  | _ => none
theorem cCall_ok (hr : RecOk X E n rec) (c : COk X E n sc C J xn) {f : PySem.Expr} {args : List PySem.Expr} {kws : List Keyword} (h : cCall E rec sc f args kws pos = some ce) : PEr X J C (.Call f args kws pos) (evE (Gn E n xn) ce) := by
  cases f <;> try cases h
  case Attribute o m apos => exact cMeth_ok hr c h
  case Name x p =>
    simp only [cCall] at h
    by_cases h1 : okName x = true ∧ sc.scope.names.lookup x = some .globalImplicit
    · rw [if_pos h1] at h
      cases hg : E.globs.lookup x with
      | some g =>
        rw [hg] at h
        cases g with
        | fn i => exact cOwn_ok hr c h1.1 h1.2 hg h
        | cls cl => exact cMake_ok hr c h1.1 h1.2 hg h
        | con v => cases h
      | none =>
        rw [hg] at h
        cases kws with
        | nil => exact cBlt_ok hr c h1.2 hg h
        | cons => cases h
    · rw [if_neg h1] at h; cases h
/-! ### what is walked -/
def isTupE : PySem.Expr → Bool
  | .Tuple _ _ _ => true
  | _ => false
def glB (E : Ent) (sc : SC) (x : Str) : Bool := decide (sc.scope.names.lookup x = some .globalImplicit) && (E.globs.lookup x).isNone
theorem glB_ok (c : COk X E n sc C J xn) {x : Str} (h : glB E sc x = true) (hm : x ∈ bltNames) : L2.Gl C x ∧ C.mg x = none := by
  unfold glB at h
  rw [Bool.and_eq_true, decide_eq_true_eq, Option.isNone_iff_eq_none] at h
  exact c.blt h.1 h.2 hm
/-- a call of a built-in by name: the name, the arguments -/
def callOf : PySem.Expr → Option (Str × List PySem.Expr)
  | .Call (.Name x _) args [] _ => some (x, args)
  | _ => none
theorem callOf_ok {x : Str} {args : List PySem.Expr} (h : callOf e = some (x, args)) : ∃ p p2, e = .Call (.Name x p) args [] p2 := by
  cases e <;> try cases h
  rename_i f as kws p2
  cases f <;> try cases h
  rename_i y p
  cases kws with
  | cons => cases h
  | nil => cases h; exact ⟨p, p2, rfl⟩
def cIter (E : Ent) (rec : SC → PySem.Expr → Option CE) (sc : SC) (tg it : PySem.Expr) : Option CI := match callOf it with
  | some (x, args) =>
    if x = "range" then (if glB E sc "range" = true then (match args with
      | [a] => if noStar a = true then (rec sc a).map fun ca => .rng [ca] else none
      | [a, b] => if noStar a = true ∧ noStar b = true then (match rec sc a with
        | some ca => (rec sc b).map fun cb => .rng [ca, cb]
        | none => none) else none
      | [a, b, c] => if noStar a = true ∧ noStar b = true ∧ noStar c = true then (match rec sc a with
        | some ca => (match rec sc b with
          | some cb => (rec sc c).map fun cc => .rng [ca, cb, cc]
          | none => none)
        | none => none) else none
      | _ => none) else none)
    else if x = "enumerate" then (if glB E sc "enumerate" = true ∧ isTupE tg = true then (match args with
      | [a] => if noStar a = true then (rec sc a).map .enm else none
      | _ => none) else none)
    else if x = "zip" then (if glB E sc "zip" = true ∧ isTupE tg = true then (match args with
      | [a, b] => if noStar a = true ∧ noStar b = true then (match rec sc a with
        | some ca => (rec sc b).map fun cb => .zip ca cb
        | none => none) else none
      | _ => none) else none)
    else if x = "reversed" then (if glB E sc "reversed" = true then (match args with
      | [a] => (match isRange a with
        | some rargs => if glB E sc "range" = true then (match rargs with
          | [a] => if noStar a = true then (rec sc a).map fun ca => .revr [ca] else none
          | [a, b] => if noStar a = true ∧ noStar b = true then (match rec sc a with
            | some ca => (rec sc b).map fun cb => .revr [ca, cb]
            | none => none) else none
          | _ => none) else none
        | none => if noStar a = true then (rec sc a).map .rev else none)
      | _ => none) else none)
    else (rec sc it).map .seq
  | none => (rec sc it).map .seq
theorem cIter_ok (hr : RecOk X E n rec) (c : COk X E n sc C J xn) {ci : CI} (h : cIter E rec sc tg it = some ci) : PIr X J C tg it (evI (Gn E n xn) ci) := by
  have sq : (rec sc it).map CI.seq = some ci → PIr X J C tg it (evI (Gn E n xn) ci) := fun h => by
    obtain ⟨ce, e1, rfl⟩ := map_some h
    exact pir_seq c.K (hr sc C J xn it ce c e1).1
  unfold cIter at h
  cases hc : callOf it with
  | none => rw [hc] at h; exact sq h
  | some q =>
    obtain ⟨x, args⟩ := q
    rw [hc] at h
    simp only at h
    obtain ⟨p, p2, rfl⟩ := callOf_ok hc
    split at h
    · subst x
      split at h
      · rename_i hg
        obtain ⟨g1, g2⟩ := glB_ok c hg (by decide)
        match args, h with
        | [a], h =>
          simp only at h
          split at h
          · obtain ⟨ca, e1, rfl⟩ := map_some h
            exact pir_rng1 g1 g2 (by assumption) (hr sc C J xn a ca c e1).1
          · cases h
        | [a, b], h =>
          simp only at h
          split at h
          · rename_i hs
            cases e1 : rec sc a with
            | none => rw [e1] at h; cases h
            | some ca =>
              rw [e1] at h
              obtain ⟨cb, e2, rfl⟩ := map_some h
              exact pir_rng2 g1 g2 hs.1 hs.2 (hr sc C J xn a ca c e1).1 (hr sc C J xn b cb c e2).1
          · cases h
        | [a, b, d], h =>
          simp only at h
          split at h
          · rename_i hs
            cases e1 : rec sc a with
            | none => rw [e1] at h; cases h
            | some ca =>
              rw [e1] at h
              simp only at h
              cases e2 : rec sc b with
              | none => rw [e2] at h; cases h
              | some cb =>
                rw [e2] at h
                obtain ⟨cd, e3, rfl⟩ := map_some h
                exact pir_rng3 g1 g2 hs.1 hs.2.1 hs.2.2 (hr sc C J xn a ca c e1).1 (hr sc C J xn b cb c e2).1 (hr sc C J xn d cd c e3).1
          · cases h
        | [], h => cases h
        | _ :: _ :: _ :: _ :: _, h => cases h
      · cases h
    split at h
    · subst x
      split at h
      · rename_i hg
        obtain ⟨g1, g2⟩ := glB_ok c hg.1 (by decide)
        have htg := hg.2
        cases tg <;> try cases htg
        match args, h with
        | [a], h =>
          simp only at h
          split at h
          · obtain ⟨ca, e1, rfl⟩ := map_some h
            exact pir_enm c.K g1 g2 (by assumption) (hr sc C J xn a ca c e1).1
          · cases h
        | [], h => cases h
        | _ :: _ :: _, h => cases h
      · cases h
    split at h
    · subst x
      split at h
      · rename_i hg
        obtain ⟨g1, g2⟩ := glB_ok c hg.1 (by decide)
        have htg := hg.2
        cases tg <;> try cases htg
        match args, h with
        | [a, b], h =>
          simp only at h
          split at h
          · rename_i hs
            cases e1 : rec sc a with
            | none => rw [e1] at h; cases h
            | some ca =>
              rw [e1] at h
              obtain ⟨cb, e2, rfl⟩ := map_some h
              exact pir_zip c.K g1 g2 hs.1 hs.2 (hr sc C J xn a ca c e1).1 (hr sc C J xn b cb c e2).1
          · cases h
        | [], h => cases h
        | [_], h => cases h
        | _ :: _ :: _ :: _, h => cases h
      · cases h
    split at h
    · subst x
      split at h
      · rename_i hg
        obtain ⟨g1, g2⟩ := glB_ok c hg (by decide)
        match args, h with
        | [a], h =>
          simp only at h
          cases hra : isRange a with
          | none =>
            rw [hra] at h
            simp only at h
            split at h
            · obtain ⟨ca, e1, rfl⟩ := map_some h
              exact pir_rev c.K g1 g2 (by assumption) (hr sc C J xn a ca c e1).1
            · cases h
          | some rargs =>
            rw [hra] at h
            simp only at h
            obtain ⟨p3, p4, rfl⟩ := isRange_ok hra
            split at h
            · rename_i hg2
              obtain ⟨k1, k2⟩ := glB_ok c hg2 (by decide)
              match rargs, h with
              | [a], h =>
                simp only at h
                split at h
                · obtain ⟨ca, e1, rfl⟩ := map_some h
                  exact pir_revr1 g1 g2 k1 k2 (by assumption) (hr sc C J xn a ca c e1).1
                · cases h
              | [a, b], h =>
                simp only at h
                split at h
                · rename_i hs
                  cases e1 : rec sc a with
                  | none => rw [e1] at h; cases h
                  | some ca =>
                    rw [e1] at h
                    obtain ⟨cb, e2, rfl⟩ := map_some h
                    exact pir_revr2 g1 g2 k1 k2 hs.1 hs.2 (hr sc C J xn a ca c e1).1 (hr sc C J xn b cb c e2).1
                · cases h
              | [], h => cases h
              | _ :: _ :: _ :: _, h => cases h
            · cases h
        | [], h => cases h
        | _ :: _ :: _, h => cases h
      · cases h
    · exact sq h
end
end Ev

set_option Elab.async false
set_option linter.all false
set_option maxRecDepth 100000
set_option maxHeartbeats 4000000
/-! Comprehensions, the compiler's step, statements. -/
namespace Ev
open PySem PySem.Spec PyProof.Rows L2
section
variable {X : Fx} {E : Ent} {n : Nat} {sc : SC} {C : Cx} {J : Jd} {xn : Option (Nat × List Nat × List PV)} {e a b o tg it : PySem.Expr} {ce ca cb co : CE} {es : List PySem.Expr} {ces : List CE} {pos : Pos} {rec : SC → PySem.Expr → Option CE}
/-! ### targets -/
def cSlot (sc : SC) (x : Str) : Option Nat := match sc.scope.names.lookup x with
  | some .local => (match slotOf sc.N x with
    | some i => if sc.xs = some i then none else some i
    | none => none)
  | some .cell => if sc.fnB x = true then (match slotOf sc.N x with
    | some i => if sc.xs = some i then none else some i
    | none => none) else none
  | _ => none
theorem cSlot_ok (c : COk X E n sc C J xn) {x : Str} {i : Nat} (h : cSlot sc x = some i) : J.fix ≠ some i ∧ C.N[i]? = some x ∧ Loc C.env.scope x ∧ (C.fn x = true ∨ C.env.scope.names.lookup x = some .local) := by
  have fin : (match slotOf sc.N x with
    | some i => if sc.xs = some i then none else some i
    | none => none) = some i → J.fix ≠ some i ∧ C.N[i]? = some x := fun h => by
    cases e : slotOf sc.N x with
    | none => rw [e] at h; cases h
    | some j =>
      rw [e] at h
      simp only at h
      by_cases h2 : sc.xs = some j
      · rw [if_pos h2] at h; cases h
      · rw [if_neg h2] at h; cases h
        exact ⟨by rw [c.fix]; exact h2, by rw [c.N]; exact slotOf_at e⟩
  unfold cSlot at h
  cases hk : sc.scope.names.lookup x with
  | none => rw [hk] at h; cases h
  | some k =>
    rw [hk] at h
    cases k with
    | «local» =>
      obtain ⟨q1, q2⟩ := fin h
      exact ⟨q1, q2, .inl (by rw [c.sco]; exact hk), .inr (by rw [c.sco]; exact hk)⟩
    | cell =>
      simp only at h
      by_cases h2 : sc.fnB x = true
      · rw [if_pos h2] at h
        obtain ⟨q1, q2⟩ := fin h
        exact ⟨q1, q2, .inr (by rw [c.sco]; exact hk), .inl (c.fn x h2)⟩
      · rw [if_neg h2] at h; cases h
    | free => cases h
    | globalExplicit => cases h
    | globalImplicit => cases h
def cName1 (sc : SC) : PySem.Expr → Option Nat
  | .Name x _ => cSlot sc x
  | _ => none
def cTg (sc : SC) : PySem.Expr → Option CT
  | .Name x _ => (cSlot sc x).map .nm
  | .Tuple es _ _ => (omap (cName1 sc) es).map .tp
  | _ => none
theorem pns_of (c : COk X E n sc C J xn) : ∀ {es : List PySem.Expr} {is : List Nat}, omap (cName1 sc) es = some is → PNs J C es is
  | [], is, h => by cases h; trivial
  | e :: es, is, h => by
    simp only [omap] at h
    cases e1 : cName1 sc e with
    | none => rw [e1] at h; cases h
    | some i =>
      rw [e1] at h
      simp only at h
      cases e2 : omap (cName1 sc) es with
      | none => rw [e2] at h; cases h
      | some is' =>
        rw [e2] at h
        cases h
        cases e <;> try cases e1
        rename_i x p
        obtain ⟨q1, q2, q3, q4⟩ := cSlot_ok c e1
        exact ⟨⟨q1, x, p, rfl, q2, q3, q4⟩, pns_of c e2⟩
theorem cTg_g (c : COk X E n sc C J xn) (hc : sc.calm = true) {ct : CT} (h : cTg sc tg = some ct) : PGr X J C tg (fun v fr st => assignT ct v fr st) := by
  cases tg <;> try cases h
  case Name x p =>
    obtain ⟨i, e1, rfl⟩ := map_some h
    obtain ⟨q1, q2, q3, q4⟩ := cSlot_ok c e1
    exact pgr_name q1 c.nd q2 q3 q4
  case Tuple es k p =>
    obtain ⟨is, e1, rfl⟩ := map_some h
    exact pgr_tup c.K (c.calm hc) c.nd (pns_of c e1)
theorem cTg_x (c : COk X E n sc C J xn) (hc : sc.calm = true) {ct : CT} (h : cTg sc tg = some ct) : PGx X J C tg ct := by
  cases tg <;> try cases h
  case Name x p =>
    obtain ⟨i, e1, rfl⟩ := map_some h
    obtain ⟨q1, q2, q3, q4⟩ := cSlot_ok c e1
    exact pgx_name q1 c.nd q2 q3 q4
  case Tuple es k p =>
    obtain ⟨is, e1, rfl⟩ := map_some h
    exact pgx_tup c.K (c.calm hc) c.nd (pns_of c e1)
/-! ### comprehensions -/
def ownOf (N : List Str) (scope : Scope) : List (Str × Nat) := scope.names.filterMap fun p => match p.2 with
  | .local => (slotOf N p.1).map (p.1, ·)
  | .cell => (slotOf N p.1).map (p.1, ·)
  | _ => none
def blkSC (sc : SC) (scope : Scope) : SC := { N := sc.N, scope := relS scope sc.scope, calm := sc.calm, top := false, fnm := some scope.names, xs := none }
theorem COk.blk (c : COk X E n sc C J xn) {scope : Scope} {own : List (Str × Nat)} (ok : BlkOk C.N C.env.scope scope own) (hx : sc.xs = none) : InBlk C scope fun B => COk X E n (blkSC sc scope) B J xn := fun s H D cl fp =>
  { N := c.N
    nd := c.nd
    sco := by show relS scope C.env.scope = relS scope sc.scope; rw [c.sco]
    kind := ok.kind
    fn := fun x h => h
    K := c.K
    en := c.en
    xc := c.xc
    un := c.un
    cx := fun h => (c.cx h).blk s H scope _ fp
    own := fun _ h => nomatch h
    fr := fun _ h => nomatch h
    fix := by rw [c.fix, hx]; rfl
    j0 := c.j0
    su := fun i h => nomatch h }
def cIfs (rec : SC → PySem.Expr → Option CE) (sc : SC) : List PySem.Expr → Option (List CE)
  | [] => some []
  | [e] => (rec sc e).map fun ce => [ce]
  | _ => none
structure CompC where
  own : List (Str × Nat)
  ct : CT
  ci : CI
  ifs : List CE
  elt : CE
def cComp0 (E : Ent) (rec : SC → PySem.Expr → Option CE) (sc : SC) (elt tg it : PySem.Expr) (ifs : List PySem.Expr) (scope : Scope) : Option CompC :=
  if sc.calm = true ∧ sc.xs = none ∧ blkC sc.N sc.scope scope (ownOf sc.N scope) = true ∧ notSet it = true then (match cIter E rec sc tg it with
    | some ci => (match cTg (blkSC sc scope) tg with
      | some ct => (match cIfs rec (blkSC sc scope) ifs with
        | some cifs => (match rec (blkSC sc scope) elt with
          | some ce => if (slots ct).all (fun i => decide (i ∈ (ownOf sc.N scope).map (·.2))) = true then some ⟨ownOf sc.N scope, ct, ci, cifs, ce⟩ else none
          | none => none)
        | none => none)
      | none => none)
    | none => none) else none
def CompC.toE (k : CompC) : CE := .comp (k.own.map (·.2)) k.ct k.ci k.ifs k.elt
theorem fold_of (h : notSet it = true) (env : Env) (x : Value) : foldedSetIterable it env x = pure x := by
  cases it <;> first | rfl | cases h
structure CompOk (X : Fx) (E : Ent) (n : Nat) (C : Cx) (J : Jd) (xn : Option (Nat × List Nat × List PV)) (elt tg it : PySem.Expr) (ifs : List PySem.Expr) (scope : Scope) (k : CompC) : Prop where
  calm : C.calm = true
  hJ : ∀ i, J.fix ≠ some i
  hi : PIr X J C tg it (evI (Gn E n xn) k.ci)
  ok : BlkOk C.N C.env.scope scope k.own
  hsl : ∀ i ∈ slots k.ct, i ∈ k.own.map (·.2)
  hg : InBlk C scope fun B => PGx X J B tg k.ct
  ht : InBlk C scope fun B => PTsr X J B ifs (evT (Gn E n xn) k.ifs)
  he : InBlk C scope fun B => PEr X J B elt (evE (Gn E n xn) k.elt)
  hs : ∀ x, foldedSetIterable it C.env x = pure x
theorem cComp0_ok (hr : RecOk X E n rec) (c : COk X E n sc C J xn) {elt : PySem.Expr} {ifs : List PySem.Expr} {scope : Scope} {k : CompC} (h : cComp0 E rec sc elt tg it ifs scope = some k) : CompOk X E n C J xn elt tg it ifs scope k := by
  unfold cComp0 at h
  by_cases h1 : sc.calm = true ∧ sc.xs = none ∧ blkC sc.N sc.scope scope (ownOf sc.N scope) = true ∧ notSet it = true
  · rw [if_pos h1] at h
    obtain ⟨hc, hx, hb, hn⟩ := h1
    cases e1 : cIter E rec sc tg it with
    | none => rw [e1] at h; cases h
    | some ci =>
      rw [e1] at h
      simp only at h
      cases e2 : cTg (blkSC sc scope) tg with
      | none => rw [e2] at h; cases h
      | some ct =>
        rw [e2] at h
        simp only at h
        cases e3 : cIfs rec (blkSC sc scope) ifs with
        | none => rw [e3] at h; cases h
        | some cifs =>
          rw [e3] at h
          simp only at h
          cases e4 : rec (blkSC sc scope) elt with
          | none => rw [e4] at h; cases h
          | some ce =>
            rw [e4] at h
            simp only at h
            by_cases h2 : (slots ct).all (fun i => decide (i ∈ (ownOf sc.N scope).map (·.2))) = true
            · rw [if_pos h2] at h
              cases h
              have ok : BlkOk C.N C.env.scope scope (ownOf sc.N scope) := blkOk_by (by rw [c.N, c.sco]; exact hb)
              have cb := c.blk ok hx
              refine ⟨c.calm hc, fun i => (by rw [c.fix, hx]; intro z; cases z), cIter_ok hr c e1, ok, fun i hi => ?_, fun s H D cl fp => cTg_x (cb s H D cl fp) hc e2, fun s H D cl fp => ?_, fun s H D cl fp => (hr _ _ _ _ _ _ (cb s H D cl fp) e4).1, fold_of hn C.env⟩
              · rw [List.all_eq_true] at h2
                exact of_decide_eq_true (h2 i hi)
              · match ifs, e3 with
                | [], e3 => cases e3; exact ptsr_nil
                | [e], e3 =>
                  obtain ⟨ce', e5, rfl⟩ := map_some e3
                  exact ptsr_one (hr _ _ _ _ _ _ (cb s H D cl fp) e5).2
                | _ :: _ :: _, e3 => cases e3
            · rw [if_neg h2] at h; cases h
  · rw [if_neg h1] at h; cases h
def cComp (E : Ent) (rec : SC → PySem.Expr → Option CE) (sc : SC) (elt : PySem.Expr) (gs : List Comprehension) (scope : Scope) : Option CE := match gs with
  | [⟨tg, it, ifs, 0⟩] => (cComp0 E rec sc elt tg it ifs scope).map CompC.toE
  | _ => none
theorem cComp_ok (hr : RecOk X E n rec) (c : COk X E n sc C J xn) {elt : PySem.Expr} {gs : List Comprehension} {scope : Scope} (h : cComp E rec sc elt gs scope = some ce) : PEr X J C (.ListComp elt gs scope pos) (evE (Gn E n xn) ce) := by
  match gs, h with
  | [⟨tg, it, ifs, 0⟩], h =>
    obtain ⟨k, e1, rfl⟩ := map_some h
    have q := cComp0_ok hr c e1
    exact per_comp (fun i _ => q.hJ i) q.calm c.nd q.hi q.ok q.hsl q.hg q.ht q.he q.hs
/-! ### subscripts -/
def cPart (rec : SC → PySem.Expr → Option CE) (sc : SC) : Option PySem.Expr → Option (Bool × CE)
  | none => some (false, .cst .non)
  | some e => (rec sc e).map fun ce => (true, ce)
theorem cPart_ok (hr : RecOk X E n rec) (c : COk X E n sc C J xn) {p : Option PySem.Expr} {l : Bool} {cl : CE} (h : cPart rec sc p = some (l, cl)) : POr X J C p (fun fr st => if l then (evE (Gn E n xn) cl fr st).bind partI else .ok none st) := by
  cases p with
  | none => cases h; exact por_none
  | some e =>
    obtain ⟨ce, e1, e2⟩ := map_some h
    cases e2
    exact por_some (hr sc C J xn e _ c e1).1
def cSub (rec : SC → PySem.Expr → Option CE) (sc : SC) (a b : PySem.Expr) : Option CE := match b with
  | .Slice lo hi none _ => (match rec sc a with
    | some ca => (match cPart rec sc lo with
      | some (l, cl) => (match cPart rec sc hi with
        | some (h, ch) => some (.slc l h ca cl ch)
        | none => none)
      | none => none)
    | none => none)
  | b => if plainIx b = true then (match rec sc a with
    | some ca => (rec sc b).map (.ix ca)
    | none => none) else none
theorem cSub_ok (hr : RecOk X E n rec) (c : COk X E n sc C J xn) (h : cSub rec sc a b = some ce) : PEr X J C (.Subscript a b pos) (evE (Gn E n xn) ce) := by
  have pl : (if plainIx b = true then (match rec sc a with
    | some ca => (rec sc b).map (CE.ix ca)
    | none => none) else none) = some ce → PEr X J C (.Subscript a b pos) (evE (Gn E n xn) ce) := fun h => by
    split at h
    · rename_i hp
      cases e1 : rec sc a with
      | none => rw [e1] at h; cases h
      | some ca =>
        rw [e1] at h
        obtain ⟨cb, e2, rfl⟩ := map_some h
        exact per_ix c.K hp (hr sc C J xn a ca c e1).1 (hr sc C J xn b cb c e2).1
    · cases h
  cases b <;> try exact pl h
  rename_i lo hi st p
  cases st with
  | some s => exact pl h
  | none =>
    simp only [cSub] at h
    cases e1 : rec sc a with
    | none => rw [e1] at h; cases h
    | some ca =>
      rw [e1] at h
      simp only at h
      cases e2 : cPart rec sc lo with
      | none => rw [e2] at h; cases h
      | some q =>
        obtain ⟨l, cl⟩ := q
        rw [e2] at h
        simp only at h
        cases e3 : cPart rec sc hi with
        | none => rw [e3] at h; cases h
        | some q2 =>
          obtain ⟨hh, ch⟩ := q2
          rw [e3] at h
          cases h
          exact per_slc c.K (hr sc C J xn a ca c e1).1 (cPart_ok hr c e2) (cPart_ok hr c e3)
/-! ### the step -/
def cStep (E : Ent) (rec : SC → PySem.Expr → Option CE) (sc : SC) : PySem.Expr → Option CE
  | .Name x _ => cName E sc x
  | .Constant k _ _ => cConst k
  | .BinOp a op b _ => (match cBin op with
    | some o => (match rec sc a with
      | some ca => (rec sc b).map (.bin o ca)
      | none => none)
    | none => none)
  | .UnaryOp op a _ => (match op with
    | .USub => (rec sc a).map .neg
    | .Not => (rec sc a).map .nt
    | _ => none)
  | .BoolOp op es _ => cBool rec sc op es
  | .IfExp t a b _ => (match rec sc t with
    | some ct => (match rec sc a with
      | some ca => (rec sc b).map (.ite ct ca)
      | none => none)
    | none => none)
  | .Compare a ops cs _ => (match ops, cs with
    | [op], [b] => if notSet b = true then (match cCmp op with
      | some o => (match rec sc a with
        | some ca => (rec sc b).map fun cb => if sc.calm = true then .cmp o ca cb else .cmpD o ca cb
        | none => none)
      | none => none) else none
    | [op, op'], [b, d] => if notSet d = true then (match cCmp op with
      | some o => (match cCmp op' with
        | some p => (match rec sc a with
          | some ca => (match rec sc b with
            | some cb => (rec sc d).map (.chain o p ca cb)
            | none => none)
          | none => none)
        | none => none)
      | none => none) else none
    | _, _ => none)
  | .Tuple es _ _ => (cArgs rec sc es).map .tup
  | .List es _ => (cArgs rec sc es).map .lst
  | .Attribute o f _ => cAttr E rec sc o f
  | .Subscript a b _ => cSub rec sc a b
  | .Call f args kws pos => cCall E rec sc f args kws pos
  | .ListComp elt gs scope _ => cComp E rec sc elt gs scope
  | _ => none
theorem cStep_ok (hr : RecOk X E n rec) : RecOk X E n (cStep E rec) := by
  intro sc C J xn e ce c h
  have val : plainTest e = true → PEr X J C e (evE (Gn E n xn) ce) → Good X E n C J xn e ce := fun hp q => good_val c.K hp q
  cases e <;> try cases h
  case Name x p => exact val rfl (cName_ok c h)
  case Constant k j p => exact val rfl (cConst_ok h)
  case BinOp a op b p =>
    refine val rfl ?_
    simp only [cStep] at h
    cases e0 : cBin op with
    | none => rw [e0] at h; cases h
    | some o =>
      rw [e0] at h
      simp only at h
      cases e1 : rec sc a with
      | none => rw [e1] at h; cases h
      | some ca =>
        rw [e1] at h
        obtain ⟨cb, e2, rfl⟩ := map_some h
        rw [← cBin_ok e0]
        exact per_op (fun W => or_bin c.K o) (hr sc C J xn a ca c e1).1 (hr sc C J xn b cb c e2).1
  case UnaryOp op a p =>
    cases op <;> try cases h
    · obtain ⟨ca, e1, rfl⟩ := map_some h
      have q := hr sc C J xn a ca c e1
      exact ⟨per_not c.K q.1, ptr_not q.2⟩
    · obtain ⟨ca, e1, rfl⟩ := map_some h
      exact val rfl (per_neg (hr sc C J xn a ca c e1).1)
  case BoolOp op es p =>
    obtain ⟨q1, q2⟩ := cBool_ok (pos := p) hr c h
    exact ⟨q1, q2.ptr⟩
  case IfExp t a b p =>
    simp only [cStep] at h
    cases e0 : rec sc t with
    | none => rw [e0] at h; cases h
    | some ct =>
      rw [e0] at h
      simp only at h
      cases e1 : rec sc a with
      | none => rw [e1] at h; cases h
      | some ca =>
        rw [e1] at h
        obtain ⟨cb, e2, rfl⟩ := map_some h
        have qt := hr sc C J xn t ct c e0
        have qa := hr sc C J xn a ca c e1
        have qb := hr sc C J xn b cb c e2
        exact ⟨per_ite qt.2 qa.1 qb.1, ptr_ite qt.2 qa.2 qb.2⟩
  case Compare a ops cs p =>
    match ops, cs, h with
    | [op], [b], h =>
      simp only [cStep] at h
      split at h
      · rename_i hs
        cases e0 : cCmp op with
        | none => rw [e0] at h; cases h
        | some o =>
          rw [e0] at h
          simp only at h
          cases e1 : rec sc a with
          | none => rw [e1] at h; cases h
          | some ca =>
            rw [e1] at h
            obtain ⟨cb, e2, e3⟩ := map_some h
            have qa := (hr sc C J xn a ca c e1).1
            have qb := (hr sc C J xn b cb c e2).1
            have eo := cCmp_ok e0
            split at e3
            · rename_i hc
              subst e3
              have ho : ∀ W, Takes C W → OpR C (compareOp op) (R2r X W (compare (Gn E n xn) o)) := fun W tk => by rw [← eo]; exact or_compare tk (c.cx hc) o
              exact ⟨per_compare ho qa qb (marks_of hs), ptr_compare ho qa qb (marks_of hs)⟩
            · subst e3
              exact ⟨per_cmpD eo c.K c.un qa qb (marks_of hs), ptr_cmpD eo c.K c.un qa qb (marks_of hs)⟩
      · cases h
    | [op, op'], [b, d], h =>
      simp only [cStep] at h
      split at h
      · rename_i hs
        cases e0 : cCmp op with
        | none => rw [e0] at h; cases h
        | some o =>
          rw [e0] at h
          simp only at h
          cases e1 : cCmp op' with
          | none => rw [e1] at h; cases h
          | some o' =>
            rw [e1] at h
            simp only at h
            cases e2 : rec sc a with
            | none => rw [e2] at h; cases h
            | some ca =>
              rw [e2] at h
              simp only at h
              cases e3 : rec sc b with
              | none => rw [e3] at h; cases h
              | some cb =>
                rw [e3] at h
                obtain ⟨cd, e4, rfl⟩ := map_some h
                have qa := (hr sc C J xn a ca c e2).1
                have qb := (hr sc C J xn b cb c e3).1
                have qd := (hr sc C J xn d cd c e4).1
                exact ⟨per_chain (cCmp_ok e0) (cCmp_ok e1) c.K c.un qa qb qd hs, ptr_chain (cCmp_ok e0) (cCmp_ok e1) c.K c.un qa qb qd hs⟩
      · cases h
    | [], _, h => cases h
    | [_], [], h => cases h
    | [_], _ :: _ :: _, h => cases h
    | [_, _], [], h => cases h
    | [_, _], [_], h => cases h
    | [_, _], _ :: _ :: _ :: _, h => cases h
    | _ :: _ :: _ :: _, _, h => cases h
  case Tuple es k p =>
    obtain ⟨ces, e1, rfl⟩ := map_some h
    exact val rfl (per_tup (cArgs_ok hr c e1).2.1)
  case List es p =>
    obtain ⟨ces, e1, rfl⟩ := map_some h
    exact val rfl (per_lst (cArgs_ok hr c e1).2.1)
  case Attribute o f p => exact val rfl (cAttr_ok hr c h)
  case Subscript a b p => exact val rfl (cSub_ok hr c h)
  case Call f args kws p => exact val rfl (cCall_ok hr c h)
  case ListComp elt gs scope p => exact val rfl (cComp_ok hr c h)
def cExpr (E : Ent) : Nat → SC → PySem.Expr → Option CE
  | 0, _, _ => none
  | m + 1, sc, e => cStep E (cExpr E m) sc e
theorem cExpr_ok : ∀ m, RecOk X E n (cExpr E m)
  | 0 => fun _ _ _ _ _ _ _ h => nomatch h
  | m + 1 => cStep_ok (cExpr_ok m)
end
end Ev

set_option Elab.async false
set_option linter.all false
set_option maxRecDepth 100000
set_option maxHeartbeats 4000000
/-! Statements compiled. -/
namespace Ev
open PySem PySem.Spec PyProof.Rows L2
section
variable {X : Fx} {E : Ent} {n : Nat} {sc : SC} {C : Cx} {J : Jd} {xn : Option (Nat × List Nat × List PV)} {e a b o tg it : PySem.Expr} {ce ca cb co : CE} {es : List PySem.Expr} {ces : List CE} {pos : Pos} {recE : SC → PySem.Expr → Option CE} {recS : SC → List Stmt → Option (List CS)} {cs : CS}
def RecSOk (X : Fx) (E : Ent) (n : Nat) (recS : SC → List Stmt → Option (List CS)) : Prop := ∀ sc C J xn sts css, COk X E n sc C J xn → recS sc sts = some css → PSsr X J C sts (exSs (Gn E n xn) css)
theorem psr_setG {G : Gl} {i : Nat} {x : Str} {pos' : Pos} (hJ : J.fix ≠ some i) (hN : C.N.Nodup) (hi : C.N[i]? = some x) (hx : Loc C.env.scope x) (hf : C.fn x = true ∨ C.env.scope.names.lookup x = some .local) (hs : swapsWith e (some (.Name x pos')) pos.line C.env = pure false) (he : PEr X J C e (evE G ca)) :
    PSr X J C (.Assign [.Name x pos'] e pos) (exS G (.set i ca)) := fun W tk =>
  PS.imp (ps_set hN hi hx (he W tk) hs hf) fun D σ H h => by
    obtain ⟨L, fr, st, hR, hF, hp⟩ := h
    simp only [exS] at hp
    refine ⟨L, fr, st, hR, hF, RP.imp (SR.toS hF hp) ?_⟩
    rintro x H1 ⟨L1, v, st1, le, hR1, r, hp1⟩
    exact hp1.here hR1 ((hF.mono le).set r i hJ)
/-! ### name = [..] -/
def swB (sc : SC) (scope : Scope) (y : Str) (pl vl : Nat) : Bool := decide (sc.scope.names.lookup y = some .local) && (pl == vl) && !(scope.names.any fun (n, k) => n == y && (k == .local || k == .cell))
theorem sw_is {elt : PySem.Expr} {gs : List Comprehension} {scope : Scope} {cpos py : Pos} {y : Str} {l : Nat} {env : Env} (hk : env.scope.kind = .function) (hs : env.scope = sc.scope) : swapsWith (.ListComp elt gs scope cpos) (some (.Name y py)) l env = pure (swB sc scope y py.line cpos.line) := by
  have hb : env.blockKind = .function := by unfold Env.blockKind; rw [hk]; rfl
  have ek : env.kindOf y = sc.scope.names.lookup y := by rw [← hs]; rfl
  unfold swapsWith swB
  simp only [hb, ek, Expr.pos]
  by_cases h1 : sc.scope.names.lookup y = some .local
  · simp [h1]
  · have h2 : (sc.scope.names.lookup y == some .local) = false := by rw [beq_eq_false_iff_ne]; exact h1
    simp [h1, h2]
def cSet (E : Ent) (recE : SC → PySem.Expr → Option CE) (sc : SC) (x : Str) (pl : Nat) (e : PySem.Expr) : Option CS := match cSlot sc x with
  | some i => (match e with
    | .ListComp elt gs scope cpos => if swB sc scope x pl cpos.line = true then (match gs with
      | [⟨tg, it, ifs, 0⟩] => if sc.scope.names.lookup x = some .local then (cComp0 E recE sc elt tg it ifs scope).map fun k => .set i k.toE else none
      | _ => none) else (recE sc e).map (.set i)
    | e => if noComp e = true then (recE sc e).map (.set i) else none)
  | none => none
theorem cSet_ok (hr : RecOk X E n recE) (c : COk X E n sc C J xn) {x : Str} {px : Pos} (h : cSet E recE sc x px.line e = some cs) : PSr X J C (.Assign [.Name x px] e pos) (exS (Gn E n xn) cs) := by
  unfold cSet at h
  cases hi : cSlot sc x with
  | none => rw [hi] at h; cases h
  | some i =>
    rw [hi] at h
    simp only at h
    obtain ⟨q1, q2, q3, q4⟩ := cSlot_ok c hi
    have pl : noComp e = true → (recE sc e).map (CS.set i) = some cs → PSr X J C (.Assign [.Name x px] e pos) (exS (Gn E n xn) cs) := fun hn h => by
      obtain ⟨ce, e1, rfl⟩ := map_some h
      exact psr_set q1 c.nd q2 q3 q4 hn (hr sc C J xn e ce c e1).1
    cases e <;> try (simp only at h; split at h; · exact pl (by assumption) h
                     · cases h)
    rename_i elt gs scope cpos
    simp only at h
    have sw := sw_is (sc := sc) (elt := elt) (gs := gs) (scope := scope) (cpos := cpos) (py := px) (y := x) (l := pos.line) c.kind c.sco
    split at h
    · rename_i hw
      rw [hw] at sw
      match gs, h with
      | [⟨tg, it, ifs, 0⟩], h =>
        simp only at h
        split at h
        · rename_i hl
          obtain ⟨k, e1, rfl⟩ := map_some h
          have q := cComp0_ok hr c e1
          exact psr_setLc q1 (fun i _ => q.hJ i) q.calm c.nd q2 (by rw [c.sco]; exact hl) sw q.hi q.ok q.hsl q.hg q.ht q.he q.hs
        · cases h
    · rename_i hw
      rw [Bool.not_eq_true] at hw
      rw [hw] at sw
      obtain ⟨ce, e1, rfl⟩ := map_some h
      exact psr_setG q1 c.nd q2 q3 q4 sw (hr sc C J xn _ ce c e1).1
/-! ### parallel stores -/
/-- two names of one line -/
def cPar (recE : SC → PySem.Expr → Option CE) (sc : SC) (ts vs : List PySem.Expr) : Option CS := match ts, vs with
  | [.Name x px, .Name y py], [a, b] =>
    if sc.calm = true ∧ sc.xs = none ∧ sc.scope.names.lookup x = some .local ∧ sc.scope.names.lookup y = some .local ∧ (py.line == px.line) = true ∧ noStar a = true ∧ noStar b = true ∧ notFold [a, b] = true then (match slotOf sc.N x, slotOf sc.N y with
      | some i, some j => if i ≠ j then (match recE sc a with
        | some ca => (recE sc b).map fun cb => .par [i, j] [ca, cb]
        | none => none) else none
      | _, _ => none) else none
  | [.Subscript o i _, .Subscript o2 i2 _], [a, b] =>
    if sc.calm = true ∧ plainIx i = true ∧ plainIx i2 = true ∧ noStar a = true ∧ noStar b = true then (match recE sc o, recE sc i, recE sc o2 with
      | some co, some ci, some co2 => (match recE sc i2, recE sc a, recE sc b with
        | some ci2, some ca, some cb => some (.parSub co ci co2 ci2 ca cb)
        | _, _, _ => none)
      | _, _, _ => none) else none
  | _, _ => none
theorem swapped_sub {o i o2 i2 : PySem.Expr} {p1 p2 pt pt2 : Pos} {k k2 : Nat} {env : Env} (hs : noStar a = true) (hs2 : noStar b = true) : swappedStores [.Tuple [.Subscript o i p1, .Subscript o2 i2 p2] k pt] (.Tuple [a, b] k2 pt2) env = pure none := by
  have qa : ∀ e : PySem.Expr, noStar e = true → ¬ ((match e with | .Starred .. => true | _ => false) = true) := fun e h => by
    cases e <;> first | exact Bool.false_ne_true | cases h
  unfold swappedStores
  simp
theorem cPar_ok (hr : RecOk X E n recE) (c : COk X E n sc C J xn) {ts vs : List PySem.Expr} {kt k2 : Nat} {pt pt2 : Pos} (h : cPar recE sc ts vs = some cs) : PSr X J C (.Assign [.Tuple ts kt pt] (.Tuple vs k2 pt2) pos) (exS (Gn E n xn) cs) := by
  unfold cPar at h
  split at h
  · rename_i x px y py a b
    split at h
    · rename_i h1
      obtain ⟨hc, hxs, hx, hy, hl, hs, hs2, hf⟩ := h1
      cases e1 : slotOf sc.N x with
      | none => rw [e1] at h; cases h
      | some i =>
        cases e2 : slotOf sc.N y with
        | none => rw [e1, e2] at h; cases h
        | some j =>
          rw [e1, e2] at h
          simp only at h
          split at h
          · rename_i hij
            cases e3 : recE sc a with
            | none => rw [e3] at h; cases h
            | some ca =>
              rw [e3] at h
              obtain ⟨cb, e4, rfl⟩ := map_some h
              have nf : ∀ k, J.fix ≠ some k := fun k => (by rw [c.fix, hxs]; intro z; cases z)
              exact psr_par2 (nf i) (nf j) (c.calm hc) c.nd (by rw [c.N]; exact slotOf_at e1) (by rw [c.N]; exact slotOf_at e2) hij (by rw [c.sco]; exact hx) (by rw [c.sco]; exact hy) c.kind hl hs hs2 hf
                (par_cons hs (hr sc C J xn a ca c e3).1 (par_cons hs2 (hr sc C J xn b cb c e4).1 par_nil))
          · cases h
    · cases h
  · rename_i o i p1 o2 i2 p2 a b
    split at h
    · rename_i h1
      obtain ⟨hc, hi, hi2, hs, hs2⟩ := h1
      cases e1 : recE sc o with
      | none => rw [e1] at h; cases h
      | some co =>
        cases e2 : recE sc i with
        | none => rw [e1, e2] at h; cases h
        | some ci =>
          cases e3 : recE sc o2 with
          | none => rw [e1, e2, e3] at h; cases h
          | some co2 =>
            rw [e1, e2, e3] at h
            simp only at h
            cases e4 : recE sc i2 with
            | none => rw [e4] at h; cases h
            | some ci2 =>
              cases e5 : recE sc a with
              | none => rw [e4, e5] at h; cases h
              | some ca =>
                cases e6 : recE sc b with
                | none => rw [e4, e5, e6] at h; cases h
                | some cb =>
                  rw [e4, e5, e6] at h
                  cases h
                  exact psr_parSub c.K (c.calm hc) hi hi2 hs hs2 (hr sc C J xn o co c e1).1 (hr sc C J xn i ci c e2).1 (hr sc C J xn o2 co2 c e3).1 (hr sc C J xn i2 ci2 c e4).1 (hr sc C J xn a ca c e5).1 (hr sc C J xn b cb c e6).1 (swapped_sub hs hs2)
    · cases h
  · cases h
/-! ### = -/
def cAsg (E : Ent) (recE : SC → PySem.Expr → Option CE) (sc : SC) (t e : PySem.Expr) : Option CS := match t with
  | .Name x px => cSet E recE sc x px.line e
  | .Tuple ts _ _ => (match e with
    | .Tuple vs _ _ => cPar recE sc ts vs
    | e => if sc.calm = true ∧ notTup e = true then (match omap (cName1 sc) ts with
      | some is => (recE sc e).map (.setT is)
      | none => none) else none)
  | .Subscript o i _ => if plainIx i = true then (match recE sc o with
    | some co => (match recE sc i with
      | some ci => (recE sc e).map (.setSub co ci)
      | none => none)
    | none => none) else none
  | .Attribute o f _ => if noComp e = true then (match slotOf E.atts f with
    | some k => (match recE sc o with
      | some co => (recE sc e).map (.setAttr co k)
      | none => none)
    | none => none) else none
  | _ => none
theorem cAsg_ok (hr : RecOk X E n recE) (c : COk X E n sc C J xn) {t : PySem.Expr} (h : cAsg E recE sc t e = some cs) : PSr X J C (.Assign [t] e pos) (exS (Gn E n xn) cs) := by
  cases t <;> try cases h
  case Name x px => exact cSet_ok hr c h
  case Attribute o f p =>
    simp only [cAsg] at h
    split at h
    · rename_i hn
      cases hk : slotOf E.atts f with
      | none => rw [hk] at h; cases h
      | some k =>
        rw [hk] at h
        simp only at h
        have ef : X.aN k = f := c.en.at_ k f (slotOf_at hk)
        cases e1 : recE sc o with
        | none => rw [e1] at h; cases h
        | some co =>
          rw [e1] at h
          obtain ⟨ce, e2, rfl⟩ := map_some h
          rw [← ef]
          refine psr_setAttr c.K (fun cl f hf => ?_) hn (hr sc C J xn o co c e1).1 (hr sc C J xn e ce c e2).1
          unfold fieldOk at hf
          cases hC : E.T.cls[cl]? with
          | none => simp only [Gn, hC] at hf; cases hf
          | some CC => simp only [Gn, hC] at hf; exact c.en.fl cl CC f hC hf
    · cases h
  case Subscript o i p =>
    simp only [cAsg] at h
    split at h
    · rename_i hp
      cases e1 : recE sc o with
      | none => rw [e1] at h; cases h
      | some co =>
        rw [e1] at h
        simp only at h
        cases e2 : recE sc i with
        | none => rw [e2] at h; cases h
        | some ci =>
          rw [e2] at h
          obtain ⟨ce, e3, rfl⟩ := map_some h
          exact psr_setSub hp (hr sc C J xn o co c e1).1 (hr sc C J xn i ci c e2).1 (hr sc C J xn e ce c e3).1
    · cases h
  case Tuple ts k p =>
    have pl : (if sc.calm = true ∧ notTup e = true then (match omap (cName1 sc) ts with
      | some is => (recE sc e).map (CS.setT is)
      | none => none) else none) = some cs → PSr X J C (.Assign [.Tuple ts k p] e pos) (exS (Gn E n xn) cs) := fun h => by
      split at h
      · rename_i h1
        cases e1 : omap (cName1 sc) ts with
        | none => rw [e1] at h; cases h
        | some is =>
          rw [e1] at h
          obtain ⟨ce, e2, rfl⟩ := map_some h
          exact psr_setT c.K (c.calm h1.1) c.nd (pns_of c e1) h1.2 (hr sc C J xn e ce c e2).1
      · cases h
    cases e <;> try exact pl h
    exact cPar_ok hr c h
/-! ### raise -/
def cRaise (E : Ent) (recE : SC → PySem.Expr → Option CE) (sc : SC) : PySem.Expr → Option CS
  | .Call (.Name x _) args [] _ => if sc.calm = true ∧ okName x = true ∧ sc.scope.names.lookup x = some .globalImplicit then (match E.globs.lookup x with
    | some (.cls cl) => (match E.T.cls[cl]? with
      | some CC => (match CC.exc with
        | some (m, _) => (match args with
          | [] => if m = 0 then some (.raise cl []) else none
          | e :: es => (cArgs recE sc (e :: es)).map (.raise cl))
        | none => none)
      | none => none)
    | _ => none) else none
  | _ => none
theorem cRaise_ok (hr : RecOk X E n recE) (c : COk X E n sc C J xn) (h : cRaise E recE sc e = some cs) : PSr X J C (.Raise (some e) none pos) (exS (Gn E n xn) cs) := by
  unfold cRaise at h
  split at h
  · rename_i x p args p2
    split at h
    · rename_i h1
      obtain ⟨hc, hn, hk⟩ := h1
      obtain ⟨d1, d2⟩ := okName_d hn
      have cx := c.cx hc
      split at h
      · rename_i cl hg
        cases hC : E.T.cls[cl]? with
        | none => rw [hC] at h; cases h
        | some CC =>
          rw [hC] at h
          simp only at h
          cases hx : CC.exc with
          | none => rw [hx] at h; cases h
          | some mf =>
            obtain ⟨m, fs⟩ := mf
            rw [hx] at h
            simp only at h
            obtain ⟨hm, xo⟩ := c.xc cl CC m fs hC hx
            cases args with
            | nil =>
              simp only at h
              split at h
              · subst m; cases h
                exact psr_raise0 cx (c.gl hk) hg d1 hC hx xo
              · cases h
            | cons e es =>
              obtain ⟨ces, ha, rfl⟩ := map_some h
              obtain ⟨hst, hpa, _⟩ := cArgs_ok hr c ha
              exact psr_raise cx (c.gl hk) hg d1 hC hx xo hm hst hpa
      · cases h
    · cases h
  · cases h
/-! ### try -/
def suSC (sc : SC) (i : Option Nat) : SC := { sc with calm := false, xs := i }
theorem COk.su_ (c : COk X E n sc C J xn) {i : Option Nat} {a : Addr} {oe : Obj} {cls : Value} {d : Option Addr} {pn : List (Addr × Obj)} {cc : Nat} {ks : List Nat} {vs : List PV} (hz : Zc cls d oe) (hf : ∃ vs, oe.data = .fields vs) :
    COk X E n (suSC sc i) (C.suite a ((a, oe) :: pn)) (Jx X i a cls d cc ks vs) (i.map fun _ => (cc, ks, vs)) :=
  { N := c.N
    nd := c.nd
    sco := c.sco
    kind := c.kind
    fn := c.fn
    K := c.K
    en := c.en
    xc := c.xc
    un := c.un
    cx := fun h => nomatch h
    own := fun h => nomatch h
    fr := fun h => nomatch h
    fix := rfl
    j0 := fun h => nomatch h
    su := fun j hj => by
      have hj' : i = some j := hj
      subst hj'
      exact ⟨a, cls, d, cc, ks, vs, rfl, ⟨oe, List.mem_cons_self, hz, hf⟩, rfl⟩ }
def cHands (E : Ent) (recS : SC → List Stmt → Option (List CS)) (sc : SC) : List ExceptHandler → Option (List CS)
  | [] => some []
  | .ExceptHandler (some (.Name x _)) nm (b₀ :: suite) _ :: hds => if okName x = true ∧ sc.scope.names.lookup x = some .globalImplicit then (match E.globs.lookup x with
    | some (.cls cl) => if cl ∈ E.xcls then (match cHands E recS sc hds with
      | some css => (match nm with
        | none => (recS (suSC sc none) (b₀ :: suite)).map fun cs => .hnd cl none cs :: css
        | some y => if sc.scope.names.lookup y = some .local then (match slotOf sc.N y with
          | some i => (recS (suSC sc (some i)) (b₀ :: suite)).map fun cs => .hnd cl (some i) cs :: css
          | none => none) else none)
      | none => none) else none
    | _ => none) else none
  | _ => none
theorem cHands_ok (hr : RecSOk X E n recS) (c : COk X E n sc C J xn) : ∀ {hds : List ExceptHandler} {css : List CS}, cHands E recS sc hds = some css → ClOk X E n C hds css
  | [], css, h => by cases h; exact .nil
  | hd :: hds, css, h => by
    unfold cHands at h
    split at h
    · rename_i heq; cases heq
    · rename_i x np nm b₀ suite pos' hds' heq
      cases heq
      split at h
      · rename_i h1
        obtain ⟨d1, d2⟩ := okName_d h1.1
        split at h
        · rename_i cl hg
          split at h
          · rename_i hcl
            cases e1 : cHands E recS sc hds with
            | none => rw [e1] at h; cases h
            | some css' =>
              rw [e1] at h
              simp only at h
              have ih := cHands_ok hr c e1
              cases nm with
              | none =>
                obtain ⟨cs, e2, rfl⟩ := map_some h
                exact .cons (c.gl h1.2) d1 hg hcl (fun a oe cls d pn cc ks vs hz hf => hr _ _ _ none _ _ (c.su_ (i := none) hz hf) e2) ih
              | some y =>
                simp only at h
                split at h
                · rename_i hy
                  cases e3 : slotOf sc.N y with
                  | none => rw [e3] at h; cases h
                  | some i =>
                    rw [e3] at h
                    obtain ⟨cs, e2, rfl⟩ := map_some h
                    exact .consA (c.gl h1.2) d1 hg hcl (by rw [c.N]; exact slotOf_at e3) (by show C.env.scope.names.lookup y = _; rw [c.sco]; exact hy) (fun a oe cls d pn cc ks vs hz hf => hr _ _ _ (some (cc, ks, vs)) _ _ (c.su_ (i := some i) hz hf) e2) ih
                · cases h
          · cases h
        · cases h
      · cases h
    · cases h
theorem COk.tr (c : COk X E n sc C J xn) (pn : List (Addr × Obj)) (xe : Value → Shared → Prop) (po : PassesOwn (model C.prog C.w) C.A C.env xe) (hx : sc.xs = none) : COk X E n sc (C.tr pn xe) J xn :=
  { N := c.N
    nd := c.nd
    sco := c.sco
    kind := c.kind
    fn := c.fn
    K := c.K
    en := c.en
    xc := c.xc
    un := c.un
    cx := fun h => ⟨(c.cx h).K, (c.cx h).en, (c.cx h).fns, (c.cx h).room, (c.cx h).calm⟩
    own := fun _ _ => po
    fr := c.fr
    fix := c.fix
    j0 := c.j0
    su := fun i h => by rw [hx] at h; cases h }
def cTry (E : Ent) (recS : SC → List Stmt → Option (List CS)) (sc : SC) (body : List Stmt) (hds : List ExceptHandler) : Option CS := if sc.calm = true ∧ sc.top = true ∧ sc.xs = none then (match hds with
  | [] => none
  | h :: hs => (match recS sc body with
    | some cb => (cHands E recS sc (h :: hs)).map (.try_ cb)
    | none => none)) else none
theorem cTry_ok (hr : RecSOk X E n recS) (c : COk X E n sc C J xn) {body : List Stmt} {hds : List ExceptHandler} (h : cTry E recS sc body hds = some cs) : PSr X J C (.Try body hds [] [] pos) (exS (Gn E n xn) cs) := by
  unfold cTry at h
  split at h
  · rename_i h1
    obtain ⟨hc, ht, hx⟩ := h1
    cases hds with
    | nil => cases h
    | cons hd hds =>
      simp only at h
      cases e1 : recS sc body with
      | none => rw [e1] at h; cases h
      | some cb =>
        rw [e1] at h
        obtain ⟨css, e2, rfl⟩ := map_some h
        obtain ⟨f1, f2⟩ := c.fr hc ht
        have ej := c.j0 hc
        subst ej
        exact psr_try (c.cx hc) f1 f2 c.nd (fun pn xe po => hr _ _ _ xn _ _ (c.tr pn xe po hx) e1) (cHands_ok hr c e2)
  · cases h
/-! ### the step -/
def cAug : Operator → Option BOp
  | .Add => some .add
  | .Sub => some .sub
  | _ => none
def cStmt (E : Ent) (recE : SC → PySem.Expr → Option CE) (recS : SC → List Stmt → Option (List CS)) (sc : SC) : Stmt → Option CS
  | .Expr e _ => if noComp e = true then (recE sc e).map .expr else none
  | .Assign [t] e _ => cAsg E recE sc t e
  | .AugAssign (.Name x _) op e _ => (match cAug op with
    | some o => (match cSlot sc x with
      | some i => (recE sc e).map (.aug i o)
      | none => none)
    | none => none)
  | .If t p q _ => (match recE sc t with
    | some ct => (match recS sc p with
      | some cp => (recS sc q).map (.ife ct cp)
      | none => none)
    | none => none)
  | .For tg it body [] _ => if sc.calm = true ∧ sc.top = true ∧ notSet it = true then (match cIter E recE sc tg it with
    | some ci => (match cTg sc tg with
      | some ct => (recS sc body).map (.for_ ct ci)
      | none => none)
    | none => none) else none
  | .While t body [] _ => if sc.calm = true ∧ sc.top = true then (match recE sc t with
    | some ct => (recS sc body).map (.whl ct)
    | none => none) else none
  | .Return (some e) _ => (recE sc e).map .ret
  | .Return none _ => some .retN
  | .Raise (some e) none _ => cRaise E recE sc e
  | .Try body hds [] [] _ => cTry E recS sc body hds
  | .Pass _ => some .pass
  | .Break _ => some .brk
  | .Continue _ => some .cnt
  | _ => none
theorem cStmt_ok (hr : RecOk X E n recE) (hrS : RecSOk X E n recS) (c : COk X E n sc C J xn) {st : Stmt} (h : cStmt E recE recS sc st = some cs) : PSr X J C st (exS (Gn E n xn) cs) := by
  unfold cStmt at h
  split at h
  · split at h
    · obtain ⟨ce, e1, rfl⟩ := map_some h
      exact psr_expr (by assumption) (hr sc C J xn _ ce c e1).1
    · cases h
  · exact cAsg_ok hr c h
  · rename_i x px op e p
    cases e0 : cAug op with
    | none => rw [e0] at h; cases h
    | some o =>
      rw [e0] at h
      simp only at h
      cases e1 : cSlot sc x with
      | none => rw [e1] at h; cases h
      | some i =>
        rw [e1] at h
        obtain ⟨ce, e2, rfl⟩ := map_some h
        obtain ⟨q1, q2, q3, q4⟩ := cSlot_ok c e1
        have eo : augOf o = some op := by cases op <;> cases e0 <;> rfl
        exact psr_aug eo q1 c.nd q2 q3 q4 (hr sc C J xn _ ce c e2).1
  · rename_i t p q p0
    cases e0 : recE sc t with
    | none => rw [e0] at h; cases h
    | some ct =>
      rw [e0] at h
      simp only at h
      cases e1 : recS sc p with
      | none => rw [e1] at h; cases h
      | some cp =>
        rw [e1] at h
        obtain ⟨cq, e2, rfl⟩ := map_some h
        exact psr_ife (hr sc C J xn t ct c e0).2 (hrS sc C J xn p cp c e1) (hrS sc C J xn q cq c e2)
  · rename_i tg it body p0
    split at h
    · rename_i h1
      obtain ⟨hc, ht, hn⟩ := h1
      cases e0 : cIter E recE sc tg it with
      | none => rw [e0] at h; cases h
      | some ci =>
        rw [e0] at h
        simp only at h
        cases e1 : cTg sc tg with
        | none => rw [e1] at h; cases h
        | some ct =>
          rw [e1] at h
          obtain ⟨cb, e2, rfl⟩ := map_some h
          exact psr_for (c.own hc ht) (c.calm hc) (cIter_ok hr c e0) (cTg_g c hc e1) (hrS sc C J xn body cb c e2) (fold_of hn C.env)
    · cases h
  · rename_i t body p0
    split at h
    · rename_i h1
      cases e0 : recE sc t with
      | none => rw [e0] at h; cases h
      | some ct =>
        rw [e0] at h
        obtain ⟨cb, e2, rfl⟩ := map_some h
        exact psr_whl (c.own h1.1 h1.2) (hr sc C J xn t ct c e0).2 (hrS sc C J xn body cb c e2)
    · cases h
  · obtain ⟨ce, e1, rfl⟩ := map_some h
    exact psr_ret (hr sc C J xn _ ce c e1).1
  · cases h; exact psr_retN
  · exact cRaise_ok hr c h
  · exact cTry_ok hrS c h
  · cases h; exact psr_pass
  · cases h; exact psr_brk
  · cases h; exact psr_cnt
  · cases h
theorem stmts_ok (hr : RecOk X E n recE) (hrS : RecSOk X E n recS) (c : COk X E n sc C J xn) : ∀ {sts : List Stmt} {css : List CS}, omap (cStmt E recE recS sc) sts = some css → PSsr X J C sts (exSs (Gn E n xn) css)
  | [], css, h => by cases h; exact pssr_nil
  | st :: sts, css, h => by
    simp only [omap] at h
    cases e1 : cStmt E recE recS sc st with
    | none => rw [e1] at h; cases h
    | some cs =>
      rw [e1] at h
      simp only at h
      cases e2 : omap (cStmt E recE recS sc) sts with
      | none => rw [e2] at h; cases h
      | some css' =>
        rw [e2] at h
        cases h
        exact pssr_cons (cStmt_ok hr hrS c e1) (stmts_ok hr hrS c e2)
def cBody (E : Ent) : Nat → SC → List Stmt → Option (List CS)
  | 0, _, _ => none
  | m + 1, sc, sts => omap (cStmt E (cExpr E 40) (cBody E m) sc) sts
theorem cBody_ok : ∀ m, RecSOk X E n (cBody E m)
  | 0 => fun _ _ _ _ _ _ _ h => nomatch h
  | m + 1 => fun sc C J xn sts css c h => stmts_ok (cExpr_ok 40) (cBody_ok m) c h
end
end Ev

set_option Elab.async false
set_option linter.all false
set_option maxRecDepth 100000
set_option maxHeartbeats 4000000
/-! The table is kept at every depth; a law's end. -/
namespace Ev
open PySem PySem.Spec PyProof.Rows L2
/-- a def's context, as the compiler sees it -/
def fnSC (D : DefW) : SC := { N := D.N, scope := D.scope, calm := true, top := true, fnm := none, xs := none }
section
variable {X : Fx} {E : Ent} {P : Program} {w : World} {mg : Str → Option Value} {base : Heap}
theorem fns_ok (en : EntOk X E mg) (xc : XcAll X E mg) {M : Nat} (cb : ∀ (i : Nat) D cf, E.defs[i]? = some D → E.T.fns[i]? = some cf → cBody E M (fnSC D) D.body = some cf.body) : ∀ (n i : Nat) (D : DefW) (cf : CFun), E.defs[i]? = some D → E.T.fns[i]? = some cf →
    FnOk P w X.K mg base (L2.CX P w) (4 * n) D.fA D.fd D.ps (spF X (callN E.T n i) cf.np)
  | 0, i, D, cf, hD, hcf => by
    obtain ⟨cf', hcf', ok, fu⟩ := en.df i D hD
    rw [hcf] at hcf'
    cases hcf'
    exact ⟨fun vs H Q E h => h.1.trans ok.np, fun A outer s H args us vs Q E hr e0 hb r hsp => by
      obtain ⟨_, L, as, st, _, _, hp⟩ := hsp
      exact hp.elim⟩
  | n + 1, i, D, cf, hD, hcf => by
    obtain ⟨cf', hcf', ok, fu⟩ := en.df i D hD
    rw [hcf] at hcf'
    cases hcf'
    have ih := fns_ok en xc cb n
    refine fn_step (G := Gn E n none) ok (fun args st => ?_) fun cdv A outer s H EX hr => ?_
    · show (match E.T.fns[i]? with
        | some fd => runF ⟨callN E.T n, fun c => E.T.cls[c]?, none⟩ fd args st
        | none => .stuck) = _
      rw [hcf]
      rfl
    · have hroom : Room (4 * n + 3) (A.deeper (envOfC D.qual D.scope s.heap.objs.size D.fA cdv)) := hr
      have cx : CxOk X E n (cxOf (L2.CX P w) P w X.K mg base D.N D.qual D.scope D.fA cdv A outer s H EX) := ⟨rfl, en, fun j D' cf' h1 h2 => ih j D' cf' h1 h2, hroom, rfl⟩
      have ck : COk X E n (fnSC D) (cxOf (L2.CX P w) P w X.K mg base D.N D.qual D.scope D.fA cdv A outer s H EX) J0 none :=
        { N := rfl
          nd := ok.S.nd
          sco := rfl
          kind := ok.S.kind
          fn := fun _ _ => rfl
          K := rfl
          en := en
          xc := xc
          un := cx.units
          cx := fun _ => cx
          own := fun _ _ => passes_of (X := cxOf (L2.CX P w) P w X.K mg base D.N D.qual D.scope D.fA cdv A outer s H EX) (K := fun e s'' => L2.CX P w outer H s EX e s'') (E₁ := fun e' s'' => L2.CX P w outer H s EX e' s'') rfl
          fr := fun _ _ => ⟨rfl, rfl⟩
          fix := rfl
          j0 := fun _ => rfl
          su := fun i h => nomatch h }
      exact cBody_ok M (fnSC D) _ J0 none D.body cf.body ck (cb i D cf hD hcf)
/-! ### the script -/
theorem sqL_rv {L : Lg} {ns : List Int} : RVs X L (ns.map PV.int) (ns.map V.int) := rvs_ints
/-- only what is frozen is tracked -/
theorem only_rel {H : Hp} (hO : Only H) : Rel X { F := H, m := [], P := fun _ => none } H [] :=
  ⟨fun _ _ h => h, rfl, List.nodup_nil, fun a h => (List.not_mem_nil h).elim, (fun a o h => nomatch h), fun i c h => (by cases i <;> cases h)⟩
theorem script_rv {H : Hp} {a : Addr} {ns : List Int} (hO : Only H) (hS : SqL X.K H a (ns.map V.int)) : RV X { F := H, m := [], P := fun _ => none } (.flst (ns.map PV.int)) (.ref a) := by
  rcases hS with (h | ⟨o, h⟩) | h
  · rcases hO a with e | ⟨o, xs, e⟩
    · rw [e] at h; cases h
    · rw [e] at h; cases h
  · exact .flst h sqL_rv
  · exact .kflst h sqL_rv
/-- the law's promise from the plain fact -/
theorem law_sp {D : DefW} {cf : CFun} {n i : Nat} (hnp : cf.np = 1) {H : Hp} {a : Addr} {ns : List Int} (hO : Only H) (hS : SqL X.K H a (ns.map V.int)) (h : ∃ st, callN E.T n i [.flst (ns.map PV.int)] [] = .ok (.bl true) st) :
    spF X (callN E.T n i) cf.np [.ref a] H (fun v _ => v = .bl true) (fun _ _ _ => False) := by
  obtain ⟨st, h⟩ := h
  refine ⟨hnp.symm, _, _, _, only_rel hO, .cons (script_rv hO hS) .nil, ?_⟩
  rw [h]
  intro L' H' b le hR rv
  cases rv
  rfl
/-- the binding where no default stands: no heap is asked -/
theorem binds_bare {K : PySem.W.Frag} {D : DefW} {cf : CFun} (ok : DefOk K D cf) (fu : FullOk D) (hd : D.dvs = []) (s : Shared) (us : List Value) (hl : us.length = D.ps.length) : BindsTo s D.fd ⟨us, []⟩ (D.ps.zip us) := by
  obtain ⟨oc, od, dV, kV, doc, pm, an, cdv, ct, osl, efd, lk, hcd, hD, hK⟩ := ok.F.ex
  rw [efd]
  rcases hD with ⟨_, rfl⟩ | ⟨h, _⟩
  · obtain ⟨k, e1, e2⟩ := bind_gen (fd := PySem.W.fnOf D.nm D.qual D.params D.body D.scope .none kV doc pm an cdv ct) (us := us) (ws := []) (ks := []) (o := none) (its := []) (nd := 0) (n := D.ps.length) ok.pl hl rfl rfl rfl (by
      have := fu.b
      rw [hd] at this
      exact this)
    refine BindsTo.of_eq ?_
    have e4 : bindArgs (PySem.W.fnOf D.nm D.qual D.params D.body D.scope .none kV doc pm an cdv ct) ⟨us, []⟩ = seqItems? (PySem.W.fnOf D.nm D.qual D.params D.body D.scope .none kV doc pm an cdv ct).defaults >>= k := e1
    rw [e4]
    have e3 : seqItems? (PySem.W.fnOf D.nm D.qual D.params D.body D.scope .none kV doc pm an cdv ct).defaults = pure none := rfl
    rw [e3, pure_bind, e2]
    have e5 : codes D.ps D.ps.length [] 0 = List.range D.ps.length := by
      have := fu.c
      rw [hd] at this
      exact this
    rw [e5]
    have e6 : (List.range D.ps.length).map (fun i => (us ++ [] ++ ([] : List Value)).getD i .none) = us := by
      rw [← hl, List.append_nil, List.append_nil]
      exact argsBy_range Value.none us
    rw [e6]
  · exact absurd hd h
/-- what a law's text must have: the head's facts give the tables -/
theorem law_end {l : PySem.W.OpenLaw} {nn n : Nat} {q : Program} {loose : List Str} {XP : (Str → Option Value) → Heap → Prop} {YP : World → Heap → Prop} {d : DefRec} {x : Str} {iL M : Nat}
    (hn : l.most = some nn) (hn2 : nn ≤ sizeLine) (hdf : d.params.defaults = []) (hr : Room (4 * n) callerA)
    (F : ∀ (w : World) (mg : Str → Option Value) (fa : Addr) (h : Heap), YP w h → h.Ns mainGlobals mg → mg d.name = some (.ref fa) → ∃ (X : Fx) (E : Ent) (D : DefW) (cf : CFun), X.K.In h ∧ EntOk X E mg ∧ XcAll X E mg ∧
      (∀ (i : Nat) D cf, E.defs[i]? = some D → E.T.fns[i]? = some cf → cBody E M (fnSC D) D.body = some cf.body) ∧ E.defs[iL]? = some D ∧ E.T.fns[iL]? = some cf ∧ D.fA = fa ∧ D.ps = [x] ∧ D.dvs = [] ∧
      (∀ (ns : List Int), ns.length ≤ nn → ∃ st, callN E.T n iL [.flst (ns.map PV.int)] [] = .ok (.bl true) st)) :
    PySem.W.WalkO q loose XP YP l.row.toRowW d [] (fun f vs => PySem.call f vs) := by
  refine Att.attach_call hn hdf fun w s₀ s₁ mg mb fa o pm cd doc a vs ns G Y ho hd hcd hmg hobj hints hlen hg => ?_
  obtain ⟨X, E, D, cf, KX, en, xc, cb, hD, hcf, hfa, hps, hdv, hlaw⟩ := F w mg fa _ Y G.T.g hmg
  obtain ⟨cf', hcf', ok, fu⟩ := en.df iL D hD
  rw [hcf] at hcf'
  cases hcf'
  have hnp : cf.np = 1 := by rw [ok.np, hps]; rfl
  subst hfa
  refine law_call (CX := L2.CX l.prog w) (k := 4 * n) (x := x) (sp := spF X (callN E.T n iL) cf.np) KX G.T.g G.T.b G.T.builtins G.T.nolimit hg hobj hints (Nat.le_trans hlen hn2) hr (fun base _ _ => by rw [← hps]; exact fns_ok en xc cb n iL D cf hD hcf) (fun s u => ?_) (fun H hO hS => law_sp (D := D) hnp hO hS (hlaw ns hlen)) fun H e s' => ?_
  · have h1 := binds_bare ok fu hdv s [u] (by rw [hps]; rfl)
    rw [hps] at h1
    exact h1
  · rintro ⟨_, _, _, _, _, _, _, _, _, _, _, _, z⟩
    exact z.elim
end
end Ev

set_option Elab.async false
set_option linter.all false
set_option maxRecDepth 100000
set_option maxHeartbeats 4000000
/-! What the head must show, as one computed Bool over a part of the heap; the tables' facts from it. -/
namespace Ev
open PySem PySem.Spec PyProof.Rows L2
/-! ### a def of the text -/
structure FnL where
  nm : Str
  qual : Str
  params : Arguments
  body : List Stmt
  scope : Scope
  dv : List PV
  fA : Addr
  N : List Str
  ps : List Str
def pvV : PV → V
  | .bl b => .bl b
  | .int i => .int i
  | .str s => .str s
  | _ => .non
def pvS : PV → Bool
  | .non => true
  | .bl _ => true
  | .int _ => true
  | .str _ => true
  | _ => false
theorem pv_rv {X : Fx} {L : Lg} : ∀ {vs : List PV}, vs.all pvS = true → RVs X L vs (vs.map pvV)
  | [], _ => .nil
  | v :: vs, h => by
    have h' : pvS v = true ∧ vs.all pvS = true := by simpa using h
    refine .cons ?_ (pv_rv h'.2)
    cases v <;> first | exact .non | exact .bl _ | exact .int _ | exact .str _ | (cases h'.1)
def fdOf (K : PySem.W.Frag) (a : Addr) (d : FuncData) : FuncData := match K.lookup a with
  | some ⟨_, _, .func fd, _⟩ => fd
  | _ => d
def FnL.toW (K : PySem.W.Frag) (f : FnL) : DefW := ⟨f.nm, f.qual, f.params, f.body, f.scope, f.dv.map pvV, f.fA, fdOf K f.fA (PySem.W.fnOf f.nm f.qual f.params f.body f.scope .none .none .none .none none .none .none), f.N, f.ps⟩
def fnWa (K : PySem.W.Frag) (a : Addr) : He.FnW := match K.lookup a with
  | some ⟨_, _, .func fd, _⟩ => some (fd.name, fd.qualname, fd.params, fd.body, fd.scope, fd.globals, fd.closure, fd.builtins)
  | _ => none
def FnL.val (f : FnL) : He.FnW := some (f.nm, f.qual, f.params, .stmts f.body, f.scope, mainGlobals, [], builtinsNs)
def FnL.okB (K : PySem.W.Frag) (f : FnL) : Bool := PySem.W.keepIn K (.ref f.fA) && (match K.lookup f.fA with
  | some ⟨_, _, .func fd, _⟩ => PySem.W.codeIn K fd.code f.qual && He.dflB K fd.defaults (f.dv.map pvV)
  | _ => false)
theorem FnL.funD {K : PySem.W.Frag} {f : FnL} (e : fnWa K f.fA = f.val) (c : f.okB K = true) : FunD K f.nm f.qual f.params f.body f.scope (f.dv.map pvV) [] f.fA (f.toW K).fd := by
  obtain ⟨kp, c2⟩ := He.ba c
  unfold fnWa at e
  show FunD K f.nm f.qual f.params f.body f.scope (f.dv.map pvV) [] f.fA (fdOf K f.fA _)
  unfold fdOf
  cases q : K.lookup f.fA with
  | none =>
    rw [q] at c2
    cases c2
  | some o =>
    obtain ⟨oc, od, dt, osl⟩ := o
    rw [q] at c2 e
    cases dt with
    | func fd =>
      obtain ⟨n1, n2, n3, n4, n5, n6, n7, n8, n9, n10, n11, n12, n13, n14, n15⟩ := fd
      have e2 : (some (n1, n2, n3, n4, n5, n6, n7, n15) : He.FnW) = some (f.nm, f.qual, f.params, .stmts f.body, f.scope, mainGlobals, [], builtinsNs) := e
      simp only [Option.some.injEq, Prod.mk.injEq] at e2
      obtain ⟨h1, h2, h3, h4, h5, h6, h7, h8⟩ := e2
      have c3 : (PySem.W.codeIn K n13 f.qual && He.dflB K n8 (f.dv.map pvV)) = true := c2
      obtain ⟨k1, k2⟩ := He.ba c3
      subst h1 h2 h3 h4 h5 h6 h7 h8
      exact ⟨⟨oc, od, n8, n9, n10, n11, n12, n13, n14, osl, rfl, q, k1, He.dflB_ok k2, .inl rfl⟩, kp⟩
    | _ => cases c2
def FnL.stB (f : FnL) (cf : CFun) : Bool :=
  decide (f.scope.kind = .function) && (!f.scope.isCoroutine && (!f.scope.isGenerator && (decide f.N.Nodup && (decide (f.N.take f.ps.length = f.ps) && ((f.ps.all fun x => decide (f.scope.names.lookup x = some .local) || decide (f.scope.names.lookup x = some .cell)) &&
    ((f.scope.names.all fun y => !decide (y.2 = .free)) && (plainB f.params f.ps && (decide (cf.np = f.ps.length) && (decide (cf.nl = f.N.length) && (bOk f.ps f.ps.length [] f.dv.length && (decide (codes f.ps f.ps.length [] f.dv.length = List.range f.ps.length) && f.dv.all pvS)))))))))))
theorem FnL.def_ok {K : PySem.W.Frag} {f : FnL} {cf : CFun} (e : fnWa K f.fA = f.val) (c : f.okB K = true) (s : f.stB cf = true) : DefOk K (f.toW K) cf ∧ FullOk (f.toW K) ∧ f.dv.all pvS = true := by
  simp only [FnL.stB, Bool.and_eq_true, decide_eq_true_eq, Bool.not_eq_true'] at s
  obtain ⟨s1, s2, s3, s4, s5, s6, s7, s8, s9, s10, s11, s12, s13⟩ := s
  refine ⟨⟨FnL.funD e c, ⟨s1, s2, s3, s4, s5, fun x hx => ?_, fun y hy z => ?_⟩, plainB_ok s8, s9, s10⟩, ⟨?_, ?_⟩, s13⟩
  · rw [List.all_eq_true] at s6
    have := s6 x hx
    rw [Bool.or_eq_true, decide_eq_true_eq, decide_eq_true_eq] at this
    exact this
  · rw [List.all_eq_true] at s7
    have := s7 y hy
    rw [Bool.not_eq_true', decide_eq_false_iff_not] at this
    exact this z
  · show bOk f.ps f.ps.length [] (f.dv.map pvV).length = true
    rw [List.length_map]; exact s11
  · show codes f.ps f.ps.length [] (f.dv.map pvV).length = List.range f.ps.length
    rw [List.length_map]; exact s12
/-! ### constants of the module -/
mutual
def conB (K : PySem.W.Frag) : PV → Value → Bool
  | .non, .none => true
  | .bl b, .bool c => b == c
  | .int i, .int j _ => decide (i = j)
  | .str x, .str y _ => decide (x = y)
  | .tup vs, .ref a => (match K.lookup a with
    | some ⟨.type c, _, .seq its _, _⟩ => decide (c = "tuple") && (decide (its.size ≤ sizeLine) && conBs K vs its.toList)
    | _ => false)
  | _, _ => false
def conBs (K : PySem.W.Frag) : List PV → List Value → Bool
  | [], [] => true
  | v :: vs, u :: us => conB K v u && conBs K vs us
  | _, _ => false
end
section
variable {X : Fx}
mutual
theorem conB_ok : ∀ {v : PV} {u : Value}, conB X.K v u = true → ∃ y, RelV y u ∧ ∀ L, RV X L v y
  | .non, u, h => by
    cases u <;> first | (exact ⟨.non, rfl, fun L => .non⟩) | (simp only [conB] at h; cases h)
  | .bl b, u, h => by
    cases u <;> try (simp only [conB] at h; cases h)
    simp only [conB] at h
    rw [eq_of_beq h]
    exact ⟨.bl _, rfl, fun L => .bl _⟩
  | .int i, u, h => by
    cases u <;> try (simp only [conB] at h; cases h)
    simp only [conB] at h
    rw [of_decide_eq_true h]
    exact ⟨.int _, ⟨_, rfl⟩, fun L => .int _⟩
  | .str i, u, h => by
    cases u <;> try (simp only [conB] at h; cases h)
    simp only [conB] at h
    rw [of_decide_eq_true h]
    exact ⟨.str _, ⟨_, rfl⟩, fun L => .str _⟩
  | .tup vs, u, h => by
    cases u <;> try (simp only [conB] at h; cases h)
    rename_i a
    simp only [conB] at h
    cases q : X.K.lookup a with
    | none => rw [q] at h; cases h
    | some o =>
      obtain ⟨oc, od, dt, osl⟩ := o
      rw [q] at h
      cases oc <;> try cases h
      rename_i c
      cases dt <;> try cases h
      rename_i its n
      simp only [Bool.and_eq_true, decide_eq_true_eq] at h
      obtain ⟨h1, h2, h3⟩ := h
      subst h1
      obtain ⟨ys, r, rv⟩ := conBs_ok h3
      exact ⟨.ref a, rfl, fun L => .ktup ⟨_, its, n, q, rfl, rfl, h2, r⟩ (rv L)⟩
  | .flst _, u, h => by cases u <;> (simp only [conB] at h; cases h)
  | .obj _, u, h => by cases u <;> (simp only [conB] at h; cases h)
  | .ins _ _ _, u, h => by cases u <;> (simp only [conB] at h; cases h)
theorem conBs_ok : ∀ {vs : List PV} {us : List Value}, conBs X.K vs us = true → ∃ ys, Vals ys us ∧ ∀ L, RVs X L vs ys
  | [], [], _ => ⟨[], .nil, fun L => .nil⟩
  | [], _ :: _, h => by simp only [conBs] at h; cases h
  | _ :: _, [], h => by simp only [conBs] at h; cases h
  | v :: vs, u :: us, h => by
    simp only [conBs, Bool.and_eq_true] at h
    obtain ⟨y, r, rv⟩ := conB_ok h.1
    obtain ⟨ys, rs, rvs⟩ := conBs_ok h.2
    exact ⟨y :: ys, .cons r rs, fun L => .cons (rv L) (rvs L)⟩
end
end
/-! ### classes -/
def eqV (a b : Option Value) : Bool := decide (a = b)
def clsB (K : PySem.W.Frag) (a : Addr) : Bool :=
  PySem.W.plainGet K a Str.empty && (PySem.W.hasDictIn K a && (PySem.W.plainOver K a && (He.eqO (PySem.W.findIn K (.ref a) "__setattr__") (some (some (.builtin "object.__setattr__"))) &&
    (He.eqO (PySem.W.findIn K (.ref a) "__class__") (some (some (.builtin "object.__class__"))) && decide (PySem.W.mroIn K a (.type "object") = some true)))))
def baseB (K : PySem.W.Frag) : Bool := He.eqO (PySem.W.specialIn K (.builtin "object.__class__") "__get__") (some (some (.builtin "getset_descriptor.__get__"))) && decide (PySem.W.takesIn K (.builtin "object.__class__") = some true)
def exB (K : PySem.W.Frag) (a : Addr) : Bool :=
  He.eqO (PySem.W.findIn K (.ref a) "__getattribute__") (some (some (.builtin "BaseException.__getattribute__"))) && (He.eqO (PySem.W.findIn K (.ref a) "__getattr__") (some none) && (decide (PySem.W.subIn K (.ref a) (.type "BaseException") = some true) && (PySem.W.hasDictIn K a &&
    (He.eqO (PySem.W.findIn K (.ref a) "__class__") (some (some (.builtin "object.__class__"))) && (decide (PySem.W.mroIn K a (.type "object") = some true) && decide (PySem.W.kitOne K (.ref a) (.type "ValueError") = some true))))))
theorem clsB_ok {X : Fx} {c : Nat} (hc : c < X.nc) (b : baseB X.K = true) (h : clsB X.K (X.cA c) = true) : ClsOk X c := by
  simp only [clsB, baseB, Bool.and_eq_true, decide_eq_true_eq] at h b
  obtain ⟨h1, h2, h3, h4, h5, h6⟩ := h
  exact ⟨hc, ⟨h1, h2, h3, He.eqO_ok h4⟩, He.eqO_ok h5, He.eqO_ok b.1, b.2, h6⟩
theorem exB_ok {X : Fx} {c : Nat} (hc : c < X.nc) (b : baseB X.K = true) (h : exB X.K (X.cA c) = true) : ExOk X c := by
  simp only [exB, baseB, Bool.and_eq_true, decide_eq_true_eq] at h b
  obtain ⟨h1, h2, h3, h4, h5, h6, h7⟩ := h
  exact ⟨hc, h7, ⟨He.eqO_ok h1, He.eqO_ok h2, h3, h4⟩, ⟨He.eqO_ok h1, He.eqO_ok h2, h3, h4, He.eqO_ok h5, He.eqO_ok b.1, b.2, h6⟩⟩
def oexB (K : PySem.W.Frag) (a : Addr) : Bool := (match K.lookup a with
  | some ⟨.type "type", _, .cls cd, sl⟩ => (match cd.mro, sl.toList with
    | .ref C' :: bm, [_, _, _, _, some (.builtin n), _] => decide (C' = a) && (decide (n = "ValueError.__new__") && (!cd.hasDel && (cd.hasDict && PySem.HandSPX.refsVE bm)))
    | _, _ => false)
  | _ => false) && (He.eqO (PySem.W.findIn K (.ref a) "__setattr__") (some (some (.builtin "object.__setattr__"))) && (decide (PySem.W.subIn K (.ref a) (.type "BaseException") = some true) && (decide (PySem.W.typeIn K (.ref a) = some (.type "type")) && PySem.W.keepIn K (.ref a))))
theorem oexB_ok {K : PySem.W.Frag} {a : Addr} (h : oexB K a = true) : OexC K a := by
  unfold oexB at h
  rw [Bool.and_eq_true] at h
  obtain ⟨q, h⟩ := h
  simp only [Bool.and_eq_true, decide_eq_true_eq] at h
  obtain ⟨h1, h2, h3, h4⟩ := h
  refine ⟨?_, He.eqO_ok h1, h2, h3, h4⟩
  split at q
  · rename_i dd cd sl ho
    split at q
    · rename_i C' bm k0 k1 k2 k3 n k5 hm hs
      simp only [Bool.and_eq_true, decide_eq_true_eq, Bool.not_eq_true'] at q
      obtain ⟨rfl, rfl, hdel, hdict, ht⟩ := q
      obtain ⟨nm, bs, mro, ns, qn, hd, sn, sub, ab, col, del⟩ := cd
      dsimp only at hm hdel hdict
      subst hm hdel hdict
      have hsl : sl = #[k0, k1, k2, k3, some (.builtin "ValueError.__new__"), k5] := by
        obtain ⟨l⟩ := sl
        simp only at hs
        rw [hs]
      subst hsl
      exact ⟨nm, qn, ns, bs, bm, sn, sub, ab, col, dd, k0, k1, k2, k3, k5, ho, ht⟩
    · cases q
  · cases q
/-! ### exceptions' __init__ -/
structure XcL where
  c : Nat
  n : Nat
  fs : List (Nat × Nat)
  ini : FnL
  B : Addr
def visB (f : FnL) (x : Str) : Bool := decide (f.scope.names.lookup x = some .local) || decide (f.scope.names.lookup x = some .cell)
def stsB (K : PySem.W.Frag) (aN : Nat → Str) (f : FnL) (me : Str) (C : Addr) : List (Nat × Nat) → List Stmt → Bool
  | [], [] => true
  | p :: fs, .Assign [.Attribute (.Name me' _) g _] (.Name x _) _ :: sts => decide (me' = me) && (decide (g = aN p.1) && (decide (f.N[p.2 + 1]? = some x) && (visB f x && (okName x && (He.eqO (PySem.W.findIn K (.ref C) (aN p.1)) (some none) && stsB K aN f me C fs sts)))))
  | _, _ => false
def inB (K : PySem.W.Frag) (aN : Nat → Str) (x : XcL) (C : Addr) : Bool := match x.ini.body with
  | .Expr (.Call (.Attribute (.Name bx _) at_ p2) [.Name me _, .Constant (.str _) _ _] [] p5) _ :: sts =>
    decide (at_ = "__init__") && ((p2.endLine == p5.line) && (decide (x.ini.scope.names.lookup bx = some .globalImplicit) && (okName bx && (He.eqO (PySem.W.nsIn K mainGlobals bx) (some (some (.ref x.B))) &&
      (He.eqO (PySem.W.specialIn K (.ref x.B) "__getattribute__") (some (some (.builtin "type.__getattribute__"))) && (PySem.W.readsIn K x.B (.type "type") && ((match PySem.W.findCls K (.ref x.B) (.type "type") "__init__" with
        | some (.val v) => decide (v = .builtin "ValueError.__init__")
        | _ => false) && (decide (x.ini.N[0]? = some me) && (visB x.ini me && (okName me && stsB K aN x.ini me C x.fs sts))))))))))
  | _ => false
theorem visB_ok {f : FnL} {x : Str} {C : Cx} (h : visB f x = true) (hs : C.env.scope = f.scope) : Vis C.env.scope x := by
  unfold visB at h
  rw [Bool.or_eq_true, decide_eq_true_eq, decide_eq_true_eq] at h
  unfold Vis
  rw [hs]
  rcases h with h | h
  · exact .inl h
  · exact .inr (.inl h)
theorem stsB_ok {X : Fx} {f : FnL} {me : Str} {C : Addr} {Cc : Cx} (hN : Cc.N = f.N) (hs : Cc.env.scope = f.scope) (hK : Cc.K = X.K) : ∀ {fs : List (Nat × Nat)} {sts : List Stmt}, stsB X.K X.aN f me C fs sts = true → StoresOk Cc me C (fld2 X fs) sts
  | [], sts, h => by
    cases sts with
    | nil => trivial
    | cons st sts => cases st <;> simp only [stsB] at h <;> cases h
  | p :: fs, [], h => by simp only [stsB] at h; cases h
  | p :: fs, st :: sts, h => by
    unfold stsB at h
    split at h
    · rename_i heq; cases heq
    · rename_i p' fs' me' q1 g q2 x q3 q4 sts' h1 h2
      cases h1
      cases h2
      simp only [Bool.and_eq_true, decide_eq_true_eq] at h
      obtain ⟨rfl, rfl, k3, k4, k5, k6, k7⟩ := h
      obtain ⟨d1, d2⟩ := okName_d k5
      exact ⟨⟨x, q1, q2, q3, q4, rfl, by rw [hN]; exact k3, visB_ok k4 hs, d1, d2, by rw [hK]; exact He.eqO_ok k6⟩, stsB_ok hN hs hK k7⟩
    · cases h
def XcL.okB (K : PySem.W.Frag) (cA : Nat → Addr) (aN : Nat → Str) (x : XcL) : Bool :=
  exB K (cA x.c) && (oexB K (cA x.c) && ((x.fs.all fun p => He.eqO (PySem.W.findIn K (.ref (cA x.c)) (aN p.1)) (some none)) && (decide ((x.fs.map (·.1)).Nodup) && (decide (x.fs.length ≤ 800) && (decide (x.n ≤ 1000) &&
    (x.ini.okB K && (x.ini.stB ⟨x.n + 1, x.ini.N.length, []⟩ && (He.eqO (PySem.W.findIn K (.ref (cA x.c)) "__init__") (some (some (.ref x.ini.fA))) && (decide (PySem.W.typeIn K (.ref x.ini.fA) = some (.type "function")) && inB K aN x (cA x.c))))))))))
theorem XcL.ok {X : Fx} {x : XcL} {h : Heap} {mg : Str → Option Value} (KX : X.K.In h) (G : h.Ns mainGlobals mg) (hc : x.c < X.nc) (b : baseB X.K = true) (e : fnWa X.K x.ini.fA = x.ini.val) (q : x.okB X.K X.cA X.aN = true) : x.n ≤ 1000 ∧ XcOk X mg x.c x.n x.fs := by
  simp only [XcL.okB, Bool.and_eq_true, decide_eq_true_eq] at q
  obtain ⟨q1, q2, q3, q4, q5, q6, q7, q8, q9, q10, q11⟩ := q
  obtain ⟨dk, fu, _⟩ := FnL.def_ok e q7 q8
  refine ⟨q6, ⟨exB_ok hc b q1, oexB_ok q2, fun k hk => ?_, q4, q5, ?_⟩⟩
  · rw [List.all_eq_true] at q3
    obtain ⟨p, hp, rfl⟩ := List.mem_map.mp hk
    exact He.eqO_ok (q3 p hp)
  · unfold inB at q11
    split at q11
    · rename_i bx p1 at_ p2 me p3 t j p4 p5 p6 sts hb
      simp only [Bool.and_eq_true, decide_eq_true_eq] at q11
      obtain ⟨rfl, k2, k3, k4, k5, k6, k7, k8, k9, k10, k11, k12⟩ := q11
      obtain ⟨d1, d2⟩ := okName_d k4
      obtain ⟨m1, m2⟩ := okName_d k11
      have fc : PySem.W.findCls X.K (.ref x.B) (.type "type") "__init__" = some (.val (.builtin "ValueError.__init__")) := by
        split at k8
        · rename_i v hv
          rw [hv, of_decide_eq_true k8]
        · cases k8
      refine ⟨x.ini.toW X.K, _, bx, me, x.B, t, j, p1, p2, p3, p4, p5, p6, sts, dk, fu, rfl, He.eqO_ok q9, q10, hb, k2, k3, PySem.W.mg_of KX G (He.eqO_ok k5), ⟨He.eqO_ok k6, k7, fc⟩, d1, fun Cc hN hs hK => ⟨⟨by rw [hN]; exact k9, visB_ok (f := x.ini) k10 hs, m1, m2⟩, stsB_ok (f := x.ini) hN hs hK k12⟩⟩
    · cases q11
end Ev

set_option Elab.async false
set_option linter.all false
set_option maxRecDepth 100000
set_option maxHeartbeats 4000000
/-! A law's tables; the Hook; the facts from one computed Bool. -/
namespace Ev
open PySem PySem.Spec PyProof.Rows L2
structure LawD where
  cls : List Addr
  T : Tab
  fns : List FnL
  globs : List (Str × GK)
  xcls : List Nat
  atts : List Str
  xcs : List XcL
/-! ### attributes' names -/
def bigS (i : Nat) : Str := ⟨#[10000000 + i]⟩
def attN (atts : List Str) (i : Nat) : Str := match atts[i]? with
  | some a => a
  | none => bigS i
def smallS (a : Str) : Bool := match a.cps.toList with
  | [c] => decide (c < 10000000)
  | _ => true
def attsB (atts : List Str) : Bool := decide atts.Nodup && atts.all smallS
theorem smallS_big {i : Nat} : smallS (bigS i) = false := by
  show decide (10000000 + i < 10000000) = false
  exact decide_eq_false (by omega)
theorem attN_inj {atts : List Str} (h : attsB atts = true) : ∀ j k, attN atts j = attN atts k → j = k := by
  simp only [attsB, Bool.and_eq_true, decide_eq_true_eq] at h
  obtain ⟨h1, h2⟩ := h
  rw [List.all_eq_true] at h2
  intro j k e
  unfold attN at e
  cases ej : atts[j]? with
  | none =>
    cases ek : atts[k]? with
    | none =>
      rw [ej, ek] at e
      have e2 : (10000000 + j : Nat) = 10000000 + k := by
        have := congrArg (fun s : Str => s.cps.toList) e
        simpa [bigS] using this
      omega
    | some b =>
      rw [ej, ek] at e
      have e' : bigS j = b := e
      have := h2 b (List.mem_of_getElem? ek)
      rw [← e', smallS_big] at this
      cases this
  | some a =>
    cases ek : atts[k]? with
    | none =>
      rw [ej, ek] at e
      have e' : a = bigS k := e
      have := h2 a (List.mem_of_getElem? ej)
      rw [e', smallS_big] at this
      cases this
    | some b =>
      rw [ej, ek] at e
      have e' : a = b := e
      subst e'
      obtain ⟨hj, ej'⟩ := List.getElem?_eq_some_iff.mp ej
      obtain ⟨hk, ek'⟩ := List.getElem?_eq_some_iff.mp ek
      exact (List.getElem_inj h1).mp (ej'.trans ek'.symm)
def LawD.fx (l : LawD) (h : attsB l.atts = true) (K : PySem.W.Frag) : Fx := { K := K, cA := fun c => l.cls.getD c 0, aN := attN l.atts, nc := l.cls.length, inj := attN_inj h }
def LawD.ent (l : LawD) (K : PySem.W.Frag) : Ent := ⟨l.T, l.fns.map (FnL.toW K), l.globs, l.xcls, l.atts, l.fns.map fun f => (f.ps, f.dv)⟩
/-! ### the checks -/
def subT (T : Tab) (c d : Nat) : Bool := match T.cls[c]? with
  | some C => C.sups.any fun e => e == d
  | none => false
def all2 {α β : Type} (p : α → β → Bool) : List α → List β → Bool
  | [], [] => true
  | a :: as, b :: bs => p a b && all2 p as bs
  | _, _ => false
theorem all2_at {α β : Type} {p : α → β → Bool} : ∀ {as : List α} {bs : List β}, all2 p as bs = true → ∀ (i : Nat) a, as[i]? = some a → ∃ b, bs[i]? = some b ∧ p a b = true
  | [], [], _, i, a, e => by simp at e
  | a :: as, b :: bs, h, 0, x, e => by
    simp only [all2, Bool.and_eq_true] at h
    simp at e; subst e
    exact ⟨b, rfl, h.1⟩
  | a :: as, b :: bs, h, i + 1, x, e => by
    simp only [all2, Bool.and_eq_true] at h
    obtain ⟨y, h1, h2⟩ := all2_at h.2 i x (by simpa using e)
    exact ⟨y, by simpa using h1, h2⟩
def idxAll {α : Type} (p : Nat → α → Bool) : Nat → List α → Bool
  | _, [] => true
  | n, a :: as => p n a && idxAll p (n + 1) as
theorem idxAll_at {α : Type} {p : Nat → α → Bool} : ∀ {as : List α} {n : Nat}, idxAll p n as = true → ∀ (i : Nat) a, as[i]? = some a → p (n + i) a = true
  | [], n, _, i, a, e => by simp at e
  | a :: as, n, h, 0, x, e => by
    simp only [idxAll, Bool.and_eq_true] at h
    simp at e; subst e
    exact h.1
  | a :: as, n, h, i + 1, x, e => by
    simp only [idxAll, Bool.and_eq_true] at h
    have := idxAll_at h.2 i x (by simpa using e)
    rw [show n + 1 + i = n + (i + 1) by omega] at this
    exact this
section
variable (l : LawD) (K : PySem.W.Frag)
def LawD.cA (c : Nat) : Addr := l.cls.getD c 0
def globB (p : Str × GK) : Bool := match p.2 with
  | .fn i => (match l.fns[i]? with
    | some f => He.eqO (PySem.W.nsIn K mainGlobals p.1) (some (some (.ref f.fA)))
    | none => false)
  | .cls c => decide (c < l.cls.length) && He.eqO (PySem.W.nsIn K mainGlobals p.1) (some (some (.ref (l.cA c))))
  | .con v => (match PySem.W.nsIn K mainGlobals p.1 with
    | some (some u) => conB K v u
    | _ => false)
def methB (C : Addr) (m : Str) (i : Nat) : Bool := match l.fns[i]? with
  | some f => He.eqO (PySem.W.findIn K (.ref C) m) (some (some (.ref f.fA))) && (PySem.W.isFn K (.ref f.fA) && PySem.W.keepIn K (.ref f.fA))
  | none => false
def lookB (ms : List (Nat × Nat)) (p : Nat → Nat → Bool) : Bool := ms.all fun q => p q.1 q.2
def clB (c : Nat) (CC : CCls) : Bool :=
  decide (c < l.cls.length) && ((match CC.init with
    | some f => clsB K (l.cA c) && (PySem.W.makesIn K (l.cA c) && (methB l K (l.cA c) "__init__" f && PySem.W.keepIn K (.ref (l.cA c))))
    | none => true) && ((CC.meths.all fun q => methB l K (l.cA c) (attN l.atts q.1) q.2) && ((match CC.eq with
    | some f => methB l K (l.cA c) "__eq__" f && PySem.W.notFirst K (l.cA c) (.ref (l.cA c))
    | none => true) && ((CC.flds.all fun f => He.eqO (PySem.W.findIn K (.ref (l.cA c)) (attN l.atts f)) (some none)) && (match CC.exc with
    | some (n, fs) => l.xcs.any fun x => decide (x.c = c) && (decide (x.n = n) && decide (x.fs = fs))
    | none => true)))))
def optB (a b : Option Bool) : Bool := decide (a = b)
def isB : Bool := (List.range l.cls.length).all fun c =>
  ((List.range l.cls.length).all fun d => optB (PySem.W.kitOne K (.ref (l.cA c)) (.ref (l.cA d))) (some (subT l.T c d))) &&
  ((["NoneType", "bool", "int", "str", "list", "tuple"].all fun T => optB (PySem.W.kitOne K (.type T) (.ref (l.cA c))) (some false)) &&
  ((["bool", "int", "str", "list", "tuple", "dict"].all fun T => optB (PySem.W.kitOne K (.ref (l.cA c)) (.type T)) (some false)) &&
  (l.xcls.all fun d => optB (PySem.W.exmOne K (.ref (l.cA c)) (.ref (l.cA d))) (some (subT l.T c d)))))
def LawD.chk : Bool :=
  (l.fns.all fun f => f.okB K) && (all2 (fun f cf => f.stB cf) l.fns l.T.fns && ((l.globs.all fun p => globB l K p) && ((bltNames.all fun x => (l.globs.lookup x).isSome || He.eqO (PySem.W.nsIn K mainGlobals x) (some none)) &&
    (baseB K && (idxAll (fun c CC => clB l K c CC) 0 l.T.cls && (isB l K && l.xcs.all fun x => decide (x.c < l.cls.length) && x.okB K l.cA (attN l.atts)))))))
def LawD.fnl : List FnL := l.fns ++ l.xcs.map (·.ini)
def LawD.obs : Bool × List He.FnW := (l.chk K, l.fnl.map fun f => fnWa K f.fA)
def LawD.val : Bool × List He.FnW := (true, l.fnl.map FnL.val)
end
def LawD.hook (l : LawD) (as : List Addr) : PySem.W.Hook where
  α := Bool × List He.FnW
  obs := fun s => l.obs (He.frG s.heap.get? as)
  val := fun _ => l.val
  says := fun _ h => ∃ K : PySem.W.Frag, K.In h ∧ l.obs K = l.val
  of := fun _ _ e => ⟨_, He.frG_in, e⟩
  keeps := fun _ _ _ ⟨K, hK, c⟩ k => ⟨K, PySem.W.Frag.In.keeps hK k, c⟩
def LawD.ob (l : LawD) (as : List Addr) (g : Addr → Option Obj) : Bool × List He.FnW := l.obs (He.frG g as)
theorem LawD.ob_eq {l : LawD} {as : List Addr} {g : Addr → Option Obj} {s : Shared} (h : ∀ a, g a = s.heap.get? a) : l.ob as g = (l.hook as).obs s := by
  have e : g = s.heap.get? := funext h
  rw [e] <;> rfl
theorem map_getD {α β : Type} {f : α → β} {l : List α} {i : Nat} {d : α} (h : i < l.length) : (l.map f)[i]? = some (f (l.getD i d)) := by
  rw [List.getElem?_map, List.getD_eq_getElem?_getD, List.getElem?_eq_getElem h]
  rfl
theorem map_at {α β : Type} {f g : α → β} {l : List α} (h : l.map f = l.map g) {a : α} (ha : a ∈ l) : f a = g a := by
  induction l with
  | nil => cases ha
  | cons b l ih =>
    simp only [List.map_cons, List.cons.injEq] at h
    rcases List.mem_cons.mp ha with rfl | ha
    · exact h.1
    · exact ih h.2 ha
theorem lookN_mem {α : Type} {k : Nat} {a : α} : ∀ {l : List (Nat × α)}, lookN k l = some a → (k, a) ∈ l
  | [], h => by cases h
  | (j, b) :: r, h => by
    unfold lookN at h
    by_cases e : j = k
    · rw [if_pos e] at h; cases h; subst e; exact List.mem_cons_self
    · rw [if_neg e] at h; exact List.mem_cons_of_mem _ (lookN_mem h)
section
variable {l : LawD} {K : PySem.W.Frag}
theorem methB_ok {C : Addr} {m : Str} {i : Nat} (h : methB l K C m i = true) : ∃ f, l.fns[i]? = some f ∧ Meth K C m f.fA := by
  unfold methB at h
  cases e : l.fns[i]? with
  | none => rw [e] at h; cases h
  | some f =>
    rw [e] at h
    simp only [Bool.and_eq_true] at h
    exact ⟨f, rfl, ⟨He.eqO_ok h.1, h.2.1, h.2.2⟩⟩
theorem optB_ok {a b : Option Bool} (h : optB a b = true) : a = b := of_decide_eq_true h
theorem LawD.facts (ha : attsB l.atts = true) (hs : l.obs K = l.val) {h : Heap} {mg : Str → Option Value} (KX : K.In h) (G : h.Ns mainGlobals mg) : EntOk (l.fx ha K) (l.ent K) mg ∧ XcAll (l.fx ha K) (l.ent K) mg := by
  have hchk : l.chk K = true := congrArg Prod.fst hs
  have hfn : l.fnl.map (fun f => fnWa K f.fA) = l.fnl.map FnL.val := congrArg Prod.snd hs
  unfold LawD.chk at hchk
  simp only [Bool.and_eq_true] at hchk
  obtain ⟨c1, c2, c3, c4, c5, c6, c7, c8⟩ := hchk
  rw [List.all_eq_true] at c1 c3 c4 c8
  unfold isB at c7
  rw [List.all_eq_true] at c7
  have fe : ∀ f ∈ l.fns, fnWa K f.fA = f.val := fun f hf => map_at hfn (List.mem_append_left _ hf)
  have xe : ∀ x ∈ l.xcs, fnWa K x.ini.fA = x.ini.val := fun x hx => map_at hfn (List.mem_append_right _ (List.mem_map.mpr ⟨x, hx, rfl⟩))
  have defs_at : ∀ (i : Nat) f, l.fns[i]? = some f → (l.ent K).defs[i]? = some (f.toW K) := fun i f e => by
    show (l.fns.map (FnL.toW K))[i]? = _
    rw [List.getElem?_map, e]; rfl
  have def_of : ∀ (i : Nat) D, (l.ent K).defs[i]? = some D → ∃ f, l.fns[i]? = some f ∧ D = f.toW K := fun i D e => by
    have e' : (l.fns.map (FnL.toW K))[i]? = some D := e
    rw [List.getElem?_map] at e'
    obtain ⟨f, q1, q2⟩ := map_some e'
    exact ⟨f, q1, q2.symm⟩
  have fok : ∀ (i : Nat) f, l.fns[i]? = some f → ∃ cf, l.T.fns[i]? = some cf ∧ DefOk K (f.toW K) cf ∧ FullOk (f.toW K) ∧ f.dv.all pvS = true := fun i f e => by
    obtain ⟨cf, q1, q2⟩ := all2_at c2 i f e
    exact ⟨cf, q1, FnL.def_ok (fe f (List.mem_of_getElem? e)) (c1 f (List.mem_of_getElem? e)) q2⟩
  have glob : ∀ x k, l.globs.lookup x = some k → globB l K (x, k) = true := fun x k e => c3 (x, k) (PySem.mem_of_lookup e)
  have is_c : ∀ c, c < l.cls.length → _ := fun c hc => c7 c (List.mem_range.mpr hc)
  have cl_c : ∀ (c : Nat) CC, l.T.cls[c]? = some CC → clB l K c CC = true := fun c CC e => by
    have := idxAll_at c6 c CC e
    rwa [Nat.zero_add] at this
  refine ⟨?_, ?_⟩
  · refine { df := fun i D e => ?_, fn := fun x i e => ?_, cl := fun x c e => ?_, co := fun x v e => ?_, no := fun x hx e => ?_, ini := fun c CC f e1 e2 => ?_, me := fun c CC m f e1 e2 => ?_, eq := fun c CC f e1 e2 => ?_, fl := fun c CC f e1 e2 => ?_, at_ := fun i a e => ?_, sg := fun i ps dp e => ?_, isk := ?_, xm := fun c d hc hd => ?_ }
    · obtain ⟨f, q1, rfl⟩ := def_of i D e
      obtain ⟨cf, q2, q3, q4, _⟩ := fok i f q1
      exact ⟨cf, q2, q3, q4⟩
    · have q := glob x _ e
      simp only [globB] at q
      cases e2 : l.fns[i]? with
      | none => rw [e2] at q; cases q
      | some f =>
        rw [e2] at q
        exact ⟨f.toW K, defs_at i f e2, PySem.W.mg_of KX G (He.eqO_ok q)⟩
    · have q := glob x _ e
      simp only [globB, Bool.and_eq_true, decide_eq_true_eq] at q
      exact ⟨PySem.W.mg_of KX G (He.eqO_ok q.2), q.1⟩
    · have q := glob x _ e
      simp only [globB] at q
      cases e2 : PySem.W.nsIn K mainGlobals x with
      | none => rw [e2] at q; cases q
      | some o =>
        rw [e2] at q
        cases o with
        | none => cases q
        | some u =>
          obtain ⟨y, r, rv⟩ := conB_ok (X := l.fx ha K) (v := v) (u := u) q
          exact ⟨u, y, PySem.W.mg_of KX G e2, r, rv⟩
    · have q := c4 x hx
      have e' : l.globs.lookup x = none := e
      rw [e'] at q
      exact PySem.W.mg_none_of KX G (He.eqO_ok (by simpa using q))
    · have q := cl_c c CC e1
      simp only [clB, Bool.and_eq_true, decide_eq_true_eq] at q
      obtain ⟨q0, q1, q2, q3, q4, q5⟩ := q
      rw [e2] at q1
      simp only [Bool.and_eq_true] at q1
      obtain ⟨k1, k2, k3, k4⟩ := q1
      obtain ⟨F, f1, f2⟩ := methB_ok k3
      exact ⟨clsB_ok (X := l.fx ha K) q0 c5 k1, F.toW K, defs_at f F f1, ⟨k2, f2.at_, f2.fn, k4⟩⟩
    · have q := cl_c c CC e1
      simp only [clB, Bool.and_eq_true, decide_eq_true_eq] at q
      obtain ⟨q0, q1, q2, q3, q4, q5⟩ := q
      rw [List.all_eq_true] at q2
      obtain ⟨F, f1, f2⟩ := methB_ok (q2 (m, f) (lookN_mem e2))
      exact ⟨F.toW K, defs_at f F f1, f2⟩
    · have q := cl_c c CC e1
      simp only [clB, Bool.and_eq_true, decide_eq_true_eq] at q
      obtain ⟨q0, q1, q2, q3, q4, q5⟩ := q
      rw [e2] at q3
      simp only [Bool.and_eq_true] at q3
      obtain ⟨F, f1, f2⟩ := methB_ok q3.1
      exact ⟨F.toW K, defs_at f F f1, f2.at_, f2.fn, q3.2⟩
    · have q := cl_c c CC e1
      simp only [clB, Bool.and_eq_true, decide_eq_true_eq] at q
      obtain ⟨q0, q1, q2, q3, q4, q5⟩ := q
      rw [List.all_eq_true] at q4
      rw [List.any_eq_true] at e2
      obtain ⟨e, he, ee⟩ := e2
      have := eq_of_beq ee
      subst this
      exact He.eqO_ok (q4 _ he)
    · have e' : l.atts[i]? = some a := e
      show attN l.atts i = a
      unfold attN
      rw [e']
    · have e' : (l.fns.map fun f => (f.ps, f.dv))[i]? = some (ps, dp) := e
      rw [List.getElem?_map] at e'
      obtain ⟨f, q1, q2⟩ := map_some e'
      cases q2
      obtain ⟨cf, _, _, _, hpv⟩ := fok i f q1
      refine ⟨f.toW K, defs_at i f q1, rfl, ?_, fun L => pv_rv hpv⟩
      show (f.dv.map pvV).length = _
      rw [List.length_map]
    · refine ⟨fun c d hc hd => ?_, fun T hT d hd => ?_, fun T hT c hc => ?_⟩
      · have q := is_c c hc
        simp only [Bool.and_eq_true] at q
        exact optB_ok (List.all_eq_true.mp q.1 d (List.mem_range.mpr hd))
      · have q := is_c d hd
        simp only [Bool.and_eq_true] at q
        exact optB_ok (List.all_eq_true.mp q.2.1 T hT)
      · have q := is_c c hc
        simp only [Bool.and_eq_true] at q
        exact optB_ok (List.all_eq_true.mp q.2.2.1 T hT)
    · have q := is_c c hc
      simp only [Bool.and_eq_true] at q
      exact optB_ok (List.all_eq_true.mp q.2.2.2 d hd)
  · intro c CC m fs e1 e2
    have q := cl_c c CC e1
    simp only [clB, Bool.and_eq_true, decide_eq_true_eq] at q
    obtain ⟨q0, q1, q2, q3, q4, q5⟩ := q
    rw [e2] at q5
    simp only [List.any_eq_true, Bool.and_eq_true, decide_eq_true_eq] at q5
    obtain ⟨x, hx, rfl, rfl, rfl⟩ := q5
    have qx := c8 x hx
    rw [Bool.and_eq_true, decide_eq_true_eq] at qx
    exact XcL.ok (X := l.fx ha K) KX G qx.1 c5 (xe x hx) qx.2
end
end Ev

set_option Elab.async false
set_option linter.all false
set_option maxRecDepth 100000
set_option maxHeartbeats 2000000
/-! The engine: the evaluator's steps as equations without binders, so that simp walks a body from left to right. -/
namespace Sg
open Ev
open PySem (Str PyData)
def Gd (T : Tab) (n : Nat) (xn : Option (Nat × List Nat × List PV)) : Gl := ⟨callN T n, fun c => T.cls[c]?, xn⟩
section
variable {G : Gl} {fr : Frame} {st st1 : Store} {v x y z : PV} {vs xs : List PV} {c : Nat} {ks : List Nat} {us : List PV}
/-! ### results -/
def K1 (f : PV → Store → Res PV) (r : Res PV) : Res PV := r.bind f
/-! ### expressions -/
def vK (st : Store) : Option (Option PV) → Res PV
  | some (some v) => .ok v st
  | _ => .stuck
theorem e_var {i} : evE G (.var i) fr st = vK st fr[i]? := by
  rw [evE] <;> rfl
theorem vK_s : vK st (some (some v)) = .ok v st := rfl
theorem e_cst : evE G (.cst v) fr st = .ok v st := by rw [evE]
def bin1 (G : Gl) (o : BOp) (b : CE) (fr : Frame) (r : Res PV) : Res PV := r.bind fun x st1 => (evE G b fr st1).bind fun y st2 => binop o x y st2
def bin2 (o : BOp) (x : PV) (r : Res PV) : Res PV := r.bind fun y st2 => binop o x y st2
theorem e_bin {o a b} : evE G (.bin o a b) fr st = bin1 G o b fr (evE G a fr st) := by rw [evE] <;> rfl
theorem bin1_ok {o b} : bin1 G o b fr (.ok x st) = bin2 o x (evE G b fr st) := rfl
theorem bin2_ok {o} : bin2 o x (.ok y st) = binop o x y st := rfl
theorem bin1_ex {o b} : bin1 G o b fr (.exc c ks us st) = .exc c ks us st := rfl
theorem bin2_ex {o} : bin2 o x (.exc c ks us st) = .exc c ks us st := rfl
def neg1 (r : Res PV) : Res PV := r.bind negate
theorem e_neg {a} : evE G (.neg a) fr st = neg1 (evE G a fr st) := by rw [evE] <;> rfl
theorem neg1_ok {i : Int} : neg1 (.ok (.int i) st) = .ok (.int (-i)) st := rfl
theorem neg1_ex : neg1 (.exc c ks us st) = .exc c ks us st := rfl
def ntB (st : Store) : Option Bool → Res PV
  | some b => .ok (.bl (!b)) st
  | none => .stuck
def nt1 (r : Res PV) : Res PV := r.bind fun x st1 => ntB st1 (truth st1 x)
theorem e_nt {a} : evE G (.nt a) fr st = nt1 (evE G a fr st) := by
  rw [evE]; unfold nt1; congr 1; funext x st1
  cases truth st1 x with
  | none => rfl
  | some b => cases b <;> rfl
theorem nt1_ok : nt1 (.ok x st) = ntB st (truth st x) := rfl
theorem nt1_ex : nt1 (.exc c ks us st) = .exc c ks us st := rfl
theorem ntB_s {b} : ntB st (some b) = .ok (.bl (!b)) st := rfl
def andB (G : Gl) (b : CE) (fr : Frame) (x : PV) (st : Store) : Option Bool → Res PV
  | some true => evE G b fr st
  | some false => .ok x st
  | none => .stuck
def and1 (G : Gl) (b : CE) (fr : Frame) (r : Res PV) : Res PV := r.bind fun x st1 => andB G b fr x st1 (truth st1 x)
theorem e_and {a b} : evE G (.and a b) fr st = and1 G b fr (evE G a fr st) := by
  rw [evE] <;> rfl
theorem and1_ok {b} : and1 G b fr (.ok x st) = andB G b fr x st (truth st x) := rfl
theorem and1_ex {b} : and1 G b fr (.exc c ks us st) = .exc c ks us st := rfl
theorem andB_t {b} : andB G b fr x st (some true) = evE G b fr st := rfl
theorem andB_f {b} : andB G b fr x st (some false) = .ok x st := rfl
def orB (G : Gl) (b : CE) (fr : Frame) (x : PV) (st : Store) : Option Bool → Res PV
  | some true => .ok x st
  | some false => evE G b fr st
  | none => .stuck
def or1 (G : Gl) (b : CE) (fr : Frame) (r : Res PV) : Res PV := r.bind fun x st1 => orB G b fr x st1 (truth st1 x)
theorem e_or {a b} : evE G (.or a b) fr st = or1 G b fr (evE G a fr st) := by
  rw [evE] <;> rfl
theorem or1_ok {b} : or1 G b fr (.ok x st) = orB G b fr x st (truth st x) := rfl
theorem or1_ex {b} : or1 G b fr (.exc c ks us st) = .exc c ks us st := rfl
theorem orB_t {b} : orB G b fr x st (some true) = .ok x st := rfl
theorem orB_f {b} : orB G b fr x st (some false) = evE G b fr st := rfl
def cmp1 (G : Gl) (o : COp) (b : CE) (fr : Frame) (r : Res PV) : Res PV := r.bind fun x st1 => (evE G b fr st1).bind fun y st2 => compare G o x y st2
def cmp2 (G : Gl) (o : COp) (x : PV) (r : Res PV) : Res PV := r.bind fun y st2 => compare G o x y st2
theorem e_cmp {o a b} : evE G (.cmp o a b) fr st = cmp1 G o b fr (evE G a fr st) := by rw [evE] <;> rfl
theorem cmp1_ok {o b} : cmp1 G o b fr (.ok x st) = cmp2 G o x (evE G b fr st) := rfl
theorem cmp2_ok {o} : cmp2 G o x (.ok y st) = compare G o x y st := rfl
theorem cmp1_ex {o b} : cmp1 G o b fr (.exc c ks us st) = .exc c ks us st := rfl
theorem cmp2_ex {o} : cmp2 G o x (.exc c ks us st) = .exc c ks us st := rfl
def cmD1 (G : Gl) (o : COp) (b : CE) (fr : Frame) (r : Res PV) : Res PV := r.bind fun x st1 => (evE G b fr st1).bind fun y st2 => cmpop o x y st2
def cmD2 (o : COp) (x : PV) (r : Res PV) : Res PV := r.bind fun y st2 => cmpop o x y st2
theorem e_cmpD {o a b} : evE G (.cmpD o a b) fr st = cmD1 G o b fr (evE G a fr st) := by rw [evE] <;> rfl
theorem cmD1_ok {o b} : cmD1 G o b fr (.ok x st) = cmD2 o x (evE G b fr st) := rfl
theorem cmD2_ok {o} : cmD2 o x (.ok y st) = cmpop o x y st := rfl
theorem cmD1_ex {o b} : cmD1 G o b fr (.exc c ks us st) = .exc c ks us st := rfl
theorem cmD2_ex {o} : cmD2 o x (.exc c ks us st) = .exc c ks us st := rfl
def ch4 (p : COp) (y : PV) (r : Res PV) : Res PV := r.bind fun z st4 => cmpop p y z st4
def chB (G : Gl) (p : COp) (c : CE) (fr : Frame) (y : PV) (st : Store) : Option Bool → Res PV
  | some true => ch4 p y (evE G c fr st)
  | some false => .ok (.bl false) st
  | none => .stuck
def ch3 (G : Gl) (p : COp) (c : CE) (fr : Frame) (y : PV) (r : Res PV) : Res PV := r.bind fun k st3 => chB G p c fr y st3 (boolOf k)
def ch2 (G : Gl) (o p : COp) (c : CE) (fr : Frame) (x : PV) (r : Res PV) : Res PV := r.bind fun y st2 => ch3 G p c fr y (cmpop o x y st2)
def ch1 (G : Gl) (o p : COp) (b c : CE) (fr : Frame) (r : Res PV) : Res PV := r.bind fun x st1 => ch2 G o p c fr x (evE G b fr st1)
theorem e_chain {o p a b c} : evE G (.chain o p a b c) fr st = ch1 G o p b c fr (evE G a fr st) := by
  rw [evE] <;> rfl
theorem ch1_ok {o p b c} : ch1 G o p b c fr (.ok x st) = ch2 G o p c fr x (evE G b fr st) := rfl
theorem ch2_ok {o p c} : ch2 G o p c fr x (.ok y st) = ch3 G p c fr y (cmpop o x y st) := rfl
theorem ch3_ok {p c} {b : Bool} : ch3 G p c fr y (.ok (.bl b) st) = chB G p c fr y st (some b) := rfl
theorem chB_t {p c} : chB G p c fr y st (some true) = ch4 p y (evE G c fr st) := rfl
theorem chB_f {p c} : chB G p c fr y st (some false) = .ok (.bl false) st := rfl
theorem ch4_ok {p} : ch4 p y (.ok z st) = cmpop p y z st := rfl
def iteB (G : Gl) (a b : CE) (fr : Frame) (st : Store) : Option Bool → Res PV
  | some true => evE G a fr st
  | some false => evE G b fr st
  | none => .stuck
def ite1 (G : Gl) (a b : CE) (fr : Frame) (r : Res PV) : Res PV := r.bind fun x st1 => iteB G a b fr st1 (truth st1 x)
theorem e_ite {c a b} : evE G (.ite c a b) fr st = ite1 G a b fr (evE G c fr st) := by
  rw [evE] <;> rfl
theorem ite1_ok {a b} : ite1 G a b fr (.ok x st) = iteB G a b fr st (truth st x) := rfl
theorem ite1_ex {a b} : ite1 G a b fr (.exc c ks us st) = .exc c ks us st := rfl
theorem iteB_t {a b} : iteB G a b fr st (some true) = evE G a fr st := rfl
theorem iteB_f {a b} : iteB G a b fr st (some false) = evE G b fr st := rfl
def tup1 (r : Res (List PV)) : Res PV := r.bind fun vs st1 => newT st1 vs
theorem e_tup {es} : evE G (.tup es) fr st = tup1 (evEs G es fr st) := by rw [evE] <;> rfl
theorem tup1_ok : tup1 (.ok vs st) = newT st vs := rfl
theorem tup1_ex : tup1 (.exc c ks us st) = .exc c ks us st := rfl
def lst1 (r : Res (List PV)) : Res PV := r.bind fun vs st1 => newL st1 vs
theorem e_lst {es} : evE G (.lst es) fr st = lst1 (evEs G es fr st) := by rw [evE] <;> rfl
theorem lst1_ok : lst1 (.ok vs st) = newL st vs := rfl
theorem lst1_ex : lst1 (.exc c ks us st) = .exc c ks us st := rfl
def es1 (G : Gl) (es : List CE) (fr : Frame) (r : Res PV) : Res (List PV) := r.bind fun v st1 => (evEs G es fr st1).bind fun vs st2 => .ok (v :: vs) st2
def es2 (v : PV) (r : Res (List PV)) : Res (List PV) := r.bind fun vs st2 => .ok (v :: vs) st2
theorem es_nil : evEs G [] fr st = .ok [] st := by rw [evEs]
theorem es_cons {e es} : evEs G (e :: es) fr st = es1 G es fr (evE G e fr st) := by rw [evEs] <;> rfl
theorem es1_ok {es} : es1 G es fr (.ok v st) = es2 v (evEs G es fr st) := rfl
theorem es2_ok : es2 v (.ok vs st) = .ok (v :: vs) st := rfl
theorem es1_ex {es} : es1 G es fr (.exc c ks us st) = .exc c ks us st := rfl
theorem es2_ex : es2 v (.exc c ks us st) = .exc c ks us st := rfl
def call1 (G : Gl) (f : Nat) (r : Res (List PV)) : Res PV := r.bind fun vs st1 => G.call f vs st1
theorem e_call {f es} : evE G (.call f es) fr st = call1 G f (evEs G es fr st) := by rw [evE] <;> rfl
theorem call1_ok {T n xn f} : call1 (Gd T n xn) f (.ok vs st) = callN T n f vs st := rfl
theorem call1_ex {f} : call1 G f (.exc c ks us st) = .exc c ks us st := rfl
def pick (vs : List PV) (cs : List Nat) : Option (List PV) := omap (fun i => vs[i]?) cs
def pick1 (o : Option PV) (r : Option (List PV)) : Option (List PV) := match o with
  | some v => (match r with
    | some vs => some (v :: vs)
    | none => none)
  | none => none
theorem pick_nil : pick vs [] = some [] := rfl
theorem pick_cons {i is} : pick vs (i :: is) = pick1 vs[i]? (pick vs is) := by
  unfold pick; rw [omap]; cases vs[i]? with
  | none => rfl
  | some v => cases omap (fun i => vs[i]?) is <;> rfl
theorem pick1_s : pick1 (some v) (some vs) = some (v :: vs) := rfl
def callb2 (G : Gl) (f : Nat) (st : Store) : Option (List PV) → Res PV
  | some as => G.call f as st
  | none => .stuck
def callb1 (G : Gl) (f : Nat) (cs : List Nat) (ds : List PV) (r : Res (List PV)) : Res PV := r.bind fun vs st1 => callb2 G f st1 (pick (vs ++ ds) cs)
theorem e_callB {f es cs ds} : evE G (.callB f es cs ds) fr st = callb1 G f cs ds (evEs G es fr st) := by
  rw [evE]; unfold callb1; congr 1; funext vs st1; unfold callb2 pick
  cases omap (fun i => (vs ++ ds)[i]?) cs <;> rfl
theorem callb1_ok {f cs ds} : callb1 G f cs ds (.ok vs st) = callb2 G f st (pick (vs ++ ds) cs) := rfl
theorem callb1_ex {f cs ds} : callb1 G f cs ds (.exc c ks us st) = .exc c ks us st := rfl
theorem callb2_s {T n xn f} : callb2 (Gd T n xn) f st (some vs) = callN T n f vs st := rfl
def make1 (G : Gl) (k : Nat) (r : Res (List PV)) : Res PV := r.bind fun vs st1 => makeObj G k vs st1
theorem e_make {k es} : evE G (.make k es) fr st = make1 G k (evEs G es fr st) := by rw [evE] <;> rfl
theorem make1_ok {k} : make1 G k (.ok vs st) = makeObj G k vs st := rfl
theorem make1_ex {k} : make1 G k (.exc c ks us st) = .exc c ks us st := rfl
def meth2 (G : Gl) (f : Nat) (x : PV) (r : Res (List PV)) : Res PV := r.bind fun vs st2 => G.call f (x :: vs) st2
def methB (G : Gl) (es : List CE) (fr : Frame) (x : PV) (st : Store) : Option Nat → Res PV
  | some f => meth2 G f x (evEs G es fr st)
  | none => .stuck
def meth1 (G : Gl) (m : Nat) (es : List CE) (fr : Frame) (r : Res PV) : Res PV := r.bind fun x st1 => methB G es fr x st1 (methOf G m x st1)
theorem e_meth {m o es} : evE G (.meth m o es) fr st = meth1 G m es fr (evE G o fr st) := by
  rw [evE] <;> rfl
theorem meth1_ok {m es} : meth1 G m es fr (.ok x st) = methB G es fr x st (methOf G m x st) := rfl
theorem meth1_ex {m es} : meth1 G m es fr (.exc c ks us st) = .exc c ks us st := rfl
theorem methB_s {es f} : methB G es fr x st (some f) = meth2 G f x (evEs G es fr st) := rfl
theorem meth2_ok {T n xn f} : meth2 (Gd T n xn) f x (.ok vs st) = callN T n f (x :: vs) st := rfl
theorem meth2_ex {f} : meth2 G f x (.exc c ks us st) = .exc c ks us st := rfl
def attr1 (f : Nat) (r : Res PV) : Res PV := r.bind fun x st1 => attrOf f x st1
theorem e_attr {f o} : evE G (.attr f o) fr st = attr1 f (evE G o fr st) := by rw [evE] <;> rfl
theorem attr1_ok {f} : attr1 f (.ok x st) = attrOf f x st := rfl
theorem attr1_ex {f} : attr1 f (.exc c ks us st) = .exc c ks us st := rfl
theorem attrOf_ins {f k} {ws : List PV} : attrOf f (.ins k ks ws) st = opt st (lookG f ks ws) := rfl
theorem opt_s {α : Type} {a : α} : opt st (some a) = .ok a st := rfl
def ix1 (G : Gl) (b : CE) (fr : Frame) (r : Res PV) : Res PV := r.bind fun x st1 => (evE G b fr st1).bind fun y st2 => index x y st2
def ix2 (x : PV) (r : Res PV) : Res PV := r.bind fun y st2 => index x y st2
theorem e_ix {a b} : evE G (.ix a b) fr st = ix1 G b fr (evE G a fr st) := by rw [evE] <;> rfl
theorem ix1_ok {b} : ix1 G b fr (.ok x st) = ix2 x (evE G b fr st) := rfl
theorem ix2_ok : ix2 x (.ok y st) = index x y st := rfl
theorem ix1_ex {b} : ix1 G b fr (.exc c ks us st) = .exc c ks us st := rfl
theorem ix2_ex : ix2 x (.exc c ks us st) = .exc c ks us st := rfl
def sl3 (x : PV) (lo : Option Int) (r : Res (Option Int)) : Res PV := r.bind fun z st3 => slice x lo z st3
def slH (G : Gl) (h : Bool) (hi : CE) (fr : Frame) (st : Store) : Res (Option Int) := if h then (evE G hi fr st).bind partI else .ok none st
def sl2 (G : Gl) (h : Bool) (hi : CE) (fr : Frame) (x : PV) (r : Res (Option Int)) : Res PV := r.bind fun y st2 => sl3 x y (slH G h hi fr st2)
def sl1 (G : Gl) (l h : Bool) (lo hi : CE) (fr : Frame) (r : Res PV) : Res PV := r.bind fun x st1 => sl2 G h hi fr x (slH G l lo fr st1)
def prt (r : Res PV) : Res (Option Int) := r.bind partI
theorem e_slc {l h a lo hi} : evE G (.slc l h a lo hi) fr st = sl1 G l h lo hi fr (evE G a fr st) := by rw [evE] <;> rfl
theorem sl1_ok {l h lo hi} : sl1 G l h lo hi fr (.ok x st) = sl2 G h hi fr x (slH G l lo fr st) := rfl
theorem sl2_ok {h hi o} : sl2 G h hi fr x (.ok o st) = sl3 x o (slH G h hi fr st) := rfl
theorem sl3_ok {lo o} : sl3 x lo (.ok o st) = slice x lo o st := rfl
theorem slH_t {e} : slH G true e fr st = prt (evE G e fr st) := rfl
theorem slH_f {e} : slH G false e fr st = .ok none st := rfl
theorem prt_i {i} : prt (.ok (.int i) st) = .ok (some i) st := rfl
def rsl1 (r : Res PV) : Res PV := r.bind fun x st1 => rslice x st1
theorem e_rslc {a} : evE G (.rslc a) fr st = rsl1 (evE G a fr st) := by rw [evE] <;> rfl
theorem rsl1_ok : rsl1 (.ok x st) = rslice x st := rfl
def blt_1 (b : Blt) (r : Res (List PV)) : Res PV := r.bind fun vs st1 => builtin b vs st1
theorem e_blt {b es} : evE G (.blt b es) fr st = blt_1 b (evEs G es fr st) := by rw [evE] <;> rfl
theorem blt_1_ok {b} : blt_1 b (.ok vs st) = builtin b vs st := rfl
theorem blt_1_ex {b} : blt_1 b (.exc c ks us st) = .exc c ks us st := rfl
def lm2 (m : LM) (x : PV) (r : Res (List PV)) : Res PV := r.bind fun vs st2 => lmeth m x vs st2
def lmB (G : Gl) (m : LM) (es : List CE) (fr : Frame) (x : PV) (st : Store) : Option Bool → Res PV
  | some true => lm2 m x (evEs G es fr st)
  | _ => .stuck
def lm1 (G : Gl) (m : LM) (es : List CE) (fr : Frame) (r : Res PV) : Res PV := r.bind fun x st1 => lmB G m es fr x st1 (isLst st1 x)
theorem e_lm {m o es} : evE G (.lm m o es) fr st = lm1 G m es fr (evE G o fr st) := by
  rw [evE]; unfold lm1; congr 1; funext x st1
  cases isLst st1 x with
  | none => rfl
  | some b => cases b <;> rfl
theorem lm1_ok {m es} : lm1 G m es fr (.ok x st) = lmB G m es fr x st (isLst st x) := rfl
theorem lm1_ex {m es} : lm1 G m es fr (.exc c ks us st) = .exc c ks us st := rfl
theorem lmB_t {m es} : lmB G m es fr x st (some true) = lm2 m x (evEs G es fr st) := rfl
theorem lm2_ok {m} : lm2 m x (.ok vs st) = lmeth m x vs st := rfl
theorem lm2_ex {m} : lm2 m x (.exc c ks us st) = .exc c ks us st := rfl
def isB1 (st : Store) : Option Bool → Res PV
  | some b => .ok (.bl b) st
  | none => .stuck
def is1 (G : Gl) (ts : List Ty) (r : Res PV) : Res PV := r.bind fun x st1 => isB1 st1 (isTys G.sub st1 x ts)
theorem e_isin {a ts} : evE G (.isin a ts) fr st = is1 G ts (evE G a fr st) := by
  rw [evE]; unfold is1; congr 1; funext x st1
  cases isTys G.sub st1 x ts with
  | none => rfl
  | some b => cases b <;> rfl
theorem is1_ok {ts} : is1 G ts (.ok x st) = isB1 st (isTys G.sub st x ts) := rfl
theorem is1_ex {ts} : is1 G ts (.exc c ks us st) = .exc c ks us st := rfl
theorem isB1_s {b} : isB1 st (some b) = .ok (.bl b) st := rfl
theorem ist_nil {sub} : isTys sub st x [] = some false := rfl
def istK (sub : Nat → Nat → Bool) (st : Store) (x : PV) (ts : List Ty) : Option Bool → Option Bool
  | some true => some true
  | some false => isTys sub st x ts
  | none => none
theorem ist_cons {sub t ts} : isTys sub st x (t :: ts) = istK sub st x ts (isTy sub st x t) := by
  rw [isTys]
  cases isTy sub st x t with
  | none => rfl
  | some b => cases b <;> rfl
theorem istK_t {sub ts} : istK sub st x ts (some true) = some true := rfl
theorem istK_f {sub ts} : istK sub st x ts (some false) = isTys sub st x ts := rfl
theorem e_xat {T n f k} {ws : List PV} : evE (Gd T n (some (k, ks, ws))) (.xat f) fr st = opt st (lookG f ks ws) := by rw [evE] <;> rfl
theorem e_xis {T n ts k} {ws : List PV} : evE (Gd T n (some (k, ks, ws))) (.xis ts) fr st = .ok (.bl (exTys (Gd T n (some (k, ks, ws))) k ts)) st := by rw [evE] <;> rfl
theorem ext_nil {k} : exTys G k [] = false := rfl
theorem ext_own {k d ts} : exTys G k (.own d :: ts) = (G.sub k d || exTys G k ts) := rfl
theorem ext_verr {k ts} : exTys G k (.verr :: ts) = (true || exTys G k ts) := rfl
/-! ### what a loop walks -/
def rngK (o : Option (List PV)) (st : Store) : Res Stm := match o with
  | some xs => .ok (xs, []) st
  | none => .stuck
def rng1 (r : Res (List PV)) : Res Stm := r.bind fun vs st1 => rngK (rangeOf vs) st1
theorem i_rng {es} : evI G (.rng es) fr st = rng1 (evEs G es fr st) := by
  rw [evI]; unfold rng1; congr 1; funext vs st1; cases rangeOf vs <;> rfl
theorem rng1_ok : rng1 (.ok vs st) = rngK (rangeOf vs) st := rfl
theorem rng1_ex : rng1 (.exc c ks us st) = .exc c ks us st := rfl
theorem rngK_s : rngK (some xs) st = .ok (xs, []) st := rfl
def rvrK (o : Option (List PV)) (st : Store) : Res Stm := match o with
  | some xs => .ok (xs.reverse, []) st
  | none => .stuck
def rvr1 (r : Res (List PV)) : Res Stm := r.bind fun vs st1 => rvrK (rangeOf vs) st1
theorem i_revr {es} : evI G (.revr es) fr st = rvr1 (evEs G es fr st) := by
  rw [evI]; unfold rvr1; congr 1; funext vs st1; cases rangeOf vs <;> rfl
theorem rvr1_ok : rvr1 (.ok vs st) = rvrK (rangeOf vs) st := rfl
theorem rvrK_s : rvrK (some xs) st = .ok (xs.reverse, []) st := rfl
def seqIK (o : Option Stm) (st : Store) : Res Stm := opt st o
def seqI1 (r : Res PV) : Res Stm := r.bind fun v st1 => opt st1 (stmOf st1 v)
theorem i_seq {e} : evI G (.seq e) fr st = seqI1 (evE G e fr st) := by rw [evI] <;> rfl
theorem seqI1_ok : seqI1 (.ok x st) = opt st (stmOf st x) := rfl
theorem seqI1_ex : seqI1 (.exc c ks us st) = .exc c ks us st := rfl
def enmK (st : Store) : Option Stm → Res Stm
  | some s => .ok (enumL 0 s.1, s.2) st
  | none => .stuck
def enm1 (r : Res PV) : Res Stm := r.bind fun v st1 => enmK st1 (stmOf st1 v)
theorem i_enm {e} : evI G (.enm e) fr st = enm1 (evE G e fr st) := by
  rw [evI]; unfold enm1; congr 1; funext v st1; cases stmOf st1 v <;> rfl
theorem enm1_ok : enm1 (.ok x st) = enmK st (stmOf st x) := rfl
theorem enmK_s {s} : enmK st (some s) = .ok (enumL 0 s.1, s.2) st := rfl
def revK (st : Store) : Option Stm → Res Stm
  | some s => .ok (s.1.reverse, s.2) st
  | none => .stuck
def rev1 (r : Res PV) : Res Stm := r.bind fun v st1 => revK st1 (stmOf st1 v)
theorem i_rev {e} : evI G (.rev e) fr st = rev1 (evE G e fr st) := by
  rw [evI]; unfold rev1; congr 1; funext v st1; cases stmOf st1 v <;> rfl
theorem rev1_ok : rev1 (.ok x st) = revK st (stmOf st x) := rfl
theorem revK_s {s} : revK st (some s) = .ok (s.1.reverse, s.2) st := rfl
def zip2 (x : PV) (r : Res PV) : Res Stm := r.bind fun y st2 => opt st2 (zipStm st2 x y)
def zip1 (G : Gl) (b : CE) (fr : Frame) (r : Res PV) : Res Stm := r.bind fun x st1 => zip2 x (evE G b fr st1)
theorem i_zip {a b} : evI G (.zip a b) fr st = zip1 G b fr (evE G a fr st) := by rw [evI] <;> rfl
theorem zip1_ok {b} : zip1 G b fr (.ok x st) = zip2 x (evE G b fr st) := rfl
theorem zip2_ok : zip2 x (.ok y st) = opt st (zipStm st x y) := rfl
/-! ### comprehensions -/
def cpK (G : Gl) (tg : CT) (ifs : List CE) (elt : CE) (wt : List (Nat × List PV)) (fr : Frame) (xs : List PV) (st : Store) : Res (List PV) :=
  compL (fun v fr st => assignT tg v fr st) (evT G ifs) (fun fr st => (evE G elt fr st).bind fun v st1 => .ok [v] st1) wt fr xs st
def cp2K (G : Gl) (own2 : List Nat) (tg : CT) (ifs : List CE) (tg2 : CT) (it2 : CI) (ifs2 : List CE) (elt : CE) (wt : List (Nat × List PV)) (fr : Frame) (xs : List PV) (st : Store) : Res (List PV) :=
  compL (fun v fr st => assignT tg v fr st) (evT G ifs) (fun fr st => (evI G it2 fr st).bind fun s2 st1 =>
        compL (fun v fr st => assignT tg2 v fr st) (evT G ifs2) (fun fr st => (evE G elt fr st).bind fun v st1 => .ok [v] st1) s2.2 (wipeF fr own2) s2.1 st1) wt fr xs st
def cpE (r : Res (List PV)) : Res PV := (noExc r).bind fun xs st2 => newL st2 xs
theorem cpE_ok : cpE (.ok xs st) = newL st xs := rfl
def cp1 (G : Gl) (own : List Nat) (tg : CT) (ifs : List CE) (elt : CE) (fr : Frame) (r : Res Stm) : Res PV := r.bind fun s st1 => cpE (cpK G tg ifs elt s.2 (wipeF fr own) s.1 st1)
theorem e_comp {own tg it ifs elt} : evE G (.comp own tg it ifs elt) fr st = cp1 G own tg ifs elt fr (evI G it fr st) := by rw [evE] <;> rfl
theorem cp1_ok {own tg ifs elt s} : cp1 G own tg ifs elt fr (.ok s st) = cpE (cpK G tg ifs elt s.2 (wipeF fr own) s.1 st) := rfl
theorem cp1_ex {own tg ifs elt} : cp1 G own tg ifs elt fr (.exc c ks us st) = .exc c ks us st := rfl
def cp2_1 (G : Gl) (own own2 : List Nat) (tg : CT) (ifs : List CE) (tg2 : CT) (it2 : CI) (ifs2 : List CE) (elt : CE) (fr : Frame) (r : Res Stm) : Res PV := r.bind fun s st1 => cpE (cp2K G own2 tg ifs tg2 it2 ifs2 elt s.2 (wipeF fr own) s.1 st1)
theorem e_comp2 {own own2 tg it ifs tg2 it2 ifs2 elt} : evE G (.comp2 own own2 tg it ifs tg2 it2 ifs2 elt) fr st = cp2_1 G own own2 tg ifs tg2 it2 ifs2 elt fr (evI G it fr st) := by rw [evE] <;> rfl
theorem cp2_1_ok {own own2 tg ifs tg2 it2 ifs2 elt s} : cp2_1 G own own2 tg ifs tg2 it2 ifs2 elt fr (.ok s st) = cpE (cp2K G own2 tg ifs tg2 it2 ifs2 elt s.2 (wipeF fr own) s.1 st) := rfl
def cbE (b : Blt) (r : Res (List PV)) : Res PV := (noExc r).bind fun xs st2 => if sizeOk xs.length then bltL b xs st2 else .stuck
theorem cbE_ok {b} : cbE b (.ok xs st) = if sizeOk xs.length then bltL b xs st else .stuck := rfl
def cb1 (G : Gl) (b : Blt) (own : List Nat) (tg : CT) (ifs : List CE) (elt : CE) (fr : Frame) (r : Res Stm) : Res PV := r.bind fun s st1 => cbE b (cpK G tg ifs elt s.2 (wipeF fr own) s.1 st1)
theorem e_bltC {b own tg it ifs elt} : evE G (.bltC b own tg it ifs elt) fr st = cb1 G b own tg ifs elt fr (evI G it fr st) := by rw [evE] <;> rfl
theorem cb1_ok {b own tg ifs elt s} : cb1 G b own tg ifs elt fr (.ok s st) = cbE b (cpK G tg ifs elt s.2 (wipeF fr own) s.1 st) := rfl
theorem cb1_ex {b own tg ifs elt} : cb1 G b own tg ifs elt fr (.exc c ks us st) = .exc c ks us st := rfl
def bi1 (b : Blt) (r : Res Stm) : Res PV := r.bind fun s st1 => if sizeOk s.1.length then bltL b s.1 st1 else .stuck
theorem e_bltI {b it} : evE G (.bltI b it) fr st = bi1 b (evI G it fr st) := by rw [evE] <;> rfl
theorem bi1_ok {b s} : bi1 b (.ok s st) = if sizeOk s.1.length then bltL b s.1 st else .stuck := rfl
/-! one turn of a comprehension -/
def tsK (G : Gl) (es : List CE) (fr : Frame) (st : Store) : Option Bool → Res Bool
  | some true => evT G es fr st
  | some false => .ok false st
  | none => .stuck
def ts1 (G : Gl) (es : List CE) (fr : Frame) (r : Res PV) : Res Bool := r.bind fun v st1 => tsK G es fr st1 (truth st1 v)
theorem t_nil : evT G [] fr st = .ok true st := by rw [evT]
theorem t_cons {e es} : evT G (e :: es) fr st = ts1 G es fr (evE G e fr st) := by
  rw [evT] <;> rfl
theorem ts1_ok {es} : ts1 G es fr (.ok x st) = tsK G es fr st (truth st x) := rfl
theorem tsK_t {es} : tsK G es fr st (some true) = evT G es fr st := rfl
theorem tsK_f {es} : tsK G es fr st (some false) = .ok false st := rfl
def cpD (v : PV) (r : Res (List PV)) : Res (List PV) := r.bind fun vs st => .ok ([v] ++ vs) st
theorem cpD_ok : cpD v (.ok vs st) = .ok (v :: vs) st := rfl
def cpC (G : Gl) (tg : CT) (ifs : List CE) (elt : CE) (wt : List (Nat × List PV)) (fr : Frame) (xs : List PV) (r : Res PV) : Res (List PV) := r.bind fun v st2 => cpD v (cpK G tg ifs elt wt fr xs st2)
theorem cpC_ok {tg ifs elt wt} : cpC G tg ifs elt wt fr xs (.ok v st) = cpD v (cpK G tg ifs elt wt fr xs st) := rfl
def cpB (G : Gl) (tg : CT) (ifs : List CE) (elt : CE) (wt : List (Nat × List PV)) (fr fr1 : Frame) (xs : List PV) (r : Res Bool) : Res (List PV) := r.bind fun b st1 => match b with
  | true => cpC G tg ifs elt wt fr xs (evE G elt fr1 st1)
  | false => cpK G tg ifs elt wt fr xs st1
theorem cpB_t {tg ifs elt wt fr1} : cpB G tg ifs elt wt fr fr1 xs (.ok true st) = cpC G tg ifs elt wt fr xs (evE G elt fr1 st) := rfl
theorem cpB_f {tg ifs elt wt fr1} : cpB G tg ifs elt wt fr fr1 xs (.ok false st) = cpK G tg ifs elt wt fr xs st := rfl
def cpA (G : Gl) (tg : CT) (ifs : List CE) (elt : CE) (wt : List (Nat × List PV)) (fr : Frame) (xs : List PV) (st : Store) : Option Frame → Res (List PV)
  | some fr1 => cpB G tg ifs elt wt fr fr1 xs (evT G ifs fr1 st)
  | none => .stuck
theorem cpA_s {tg ifs elt wt fr1} : cpA G tg ifs elt wt fr xs st (some fr1) = cpB G tg ifs elt wt fr fr1 xs (evT G ifs fr1 st) := rfl
theorem cp_nil {tg ifs elt wt} : cpK G tg ifs elt wt fr [] st = if watch st wt then .ok [] st else .stuck := rfl
theorem cp_cons {tg ifs elt wt} : cpK G tg ifs elt wt fr (x :: xs) st = if watch st wt then cpA G tg ifs elt wt fr xs st (assignT tg x fr st) else .stuck := by
  unfold cpK
  rw [compL]
  by_cases hw : watch st wt = true
  · rw [if_pos hw, if_pos hw]
    cases assignT tg x fr st with
    | none => rfl
    | some fr1 =>
      show Res.bind _ _ = Res.bind _ _
      congr 1; funext b st1
      cases b with
      | false => rfl
      | true =>
        show Res.bind (Res.bind _ _) _ = Res.bind _ _
        cases evE G elt fr1 st1 <;> rfl
  · rw [if_neg hw, if_neg hw]
/-! ### statements -/
def seqK (G : Gl) (ss : List CS) : SRes → SRes
  | .nx fr st => exSs G ss fr st
  | r => r
theorem ss_nil : exSs G [] fr st = .nx fr st := by rw [exSs]
theorem ss_cons {s ss} : exSs G (s :: ss) fr st = seqK G ss (exS G s fr st) := by
  rw [exSs]; cases exS G s fr st <;> rfl
theorem exSs_app {bs : List CS} : ∀ {as : List CS} {fr : Frame} {st : Store}, exSs G (as ++ bs) fr st = seqK G bs (exSs G as fr st)
  | [], fr, st => by rw [List.nil_append, ss_nil]; rfl
  | a :: as, fr, st => by
    rw [List.cons_append, ss_cons, ss_cons]
    cases exS G a fr st with
    | nx fr1 st1 => exact exSs_app
    | _ => rfl
/-- a body cut behind its first k statements -/
theorem exSs_cut (k : Nat) {b : List CS} : exSs G b fr st = seqK G (b.drop k) (exSs G (b.take k) fr st) := by
  rw [← exSs_app, List.take_append_drop]
theorem seqK_nx {ss} : seqK G ss (.nx fr st) = exSs G ss fr st := rfl
theorem seqK_rt {ss} : seqK G ss (.rt v st) = .rt v st := rfl
theorem seqK_bk {ss} : seqK G ss (.bk fr st) = .bk fr st := rfl
theorem seqK_ct {ss} : seqK G ss (.ct fr st) = .ct fr st := rfl
theorem seqK_ex {ss} : seqK G ss (.exc c ks us fr st) = .exc c ks us fr st := rfl
def sExpr (fr : Frame) (r : Res PV) : SRes := r.toS fr fun _ st1 => .nx fr st1
theorem s_expr {e} : exS G (.expr e) fr st = sExpr fr (evE G e fr st) := by rw [exS] <;> rfl
theorem sExpr_ok : sExpr fr (.ok v st) = .nx fr st := rfl
theorem sExpr_ex : sExpr fr (.exc c ks us st) = .exc c ks us fr st := rfl
def sSet (i : Nat) (fr : Frame) (r : Res PV) : SRes := r.toS fr fun v st1 => .nx (fr.set i (some v)) st1
theorem s_set {i e} : exS G (.set i e) fr st = sSet i fr (evE G e fr st) := by rw [exS] <;> rfl
theorem sSet_ok {i} : sSet i fr (.ok v st) = .nx (fr.set i (some v)) st := rfl
theorem sSet_ex {i} : sSet i fr (.exc c ks us st) = .exc c ks us fr st := rfl
def sFr (st : Store) : Option Frame → SRes
  | some fr1 => .nx fr1 st
  | none => .stuck
theorem sFr_s : sFr st (some fr) = .nx fr st := rfl
def sSetT (is : List Nat) (fr : Frame) (r : Res PV) : SRes := r.toS fr fun v st1 => sFr st1 (assignT (.tp is) v fr st1)
theorem s_setT {is e} : exS G (.setT is e) fr st = sSetT is fr (evE G e fr st) := by
  rw [exS] <;> rfl
theorem sSetT_ok {is} : sSetT is fr (.ok v st) = sFr st (assignT (.tp is) v fr st) := rfl
theorem sSetT_ex {is} : sSetT is fr (.exc c ks us st) = .exc c ks us fr st := rfl
theorem asg_nm {i} : assignT (.nm i) v fr st = some (fr.set i (some v)) := rfl
theorem asg_tp {is} : assignT (.tp is) (.tup xs) fr st = setAll fr is xs := rfl
theorem sa_nil : setAll fr [] [] = some fr := rfl
theorem sa_cons {i is} : setAll fr (i :: is) (v :: vs) = setAll (fr.set i (some v)) is vs := rfl
def sPar (is : List Nat) (fr : Frame) (r : Res (List PV)) : SRes := r.toS fr fun vs st1 => sFr st1 (setAll fr is vs)
theorem s_par {is es} : exS G (.par is es) fr st = sPar is fr (evEs G es fr st) := by
  rw [exS] <;> rfl
theorem sPar_ok {is} : sPar is fr (.ok vs st) = sFr st (setAll fr is vs) := rfl
theorem sPar_ex {is} : sPar is fr (.exc c ks us st) = .exc c ks us fr st := rfl
def sSt (fr : Frame) : Option Store → SRes
  | some st => .nx fr st
  | none => .stuck
theorem sSt_s : sSt fr (some st) = .nx fr st := rfl
def sb3 (fr : Frame) (v x : PV) (r : Res PV) : SRes := r.toS fr fun k st3 => sSt fr (setSub x k v st3)
def sb2 (G : Gl) (i : CE) (fr : Frame) (v : PV) (r : Res PV) : SRes := r.toS fr fun x st2 => sb3 fr v x (evE G i fr st2)
def sb1 (G : Gl) (o i : CE) (fr : Frame) (r : Res PV) : SRes := r.toS fr fun v st1 => sb2 G i fr v (evE G o fr st1)
theorem s_sub {o i e} : exS G (.setSub o i e) fr st = sb1 G o i fr (evE G e fr st) := by
  rw [exS] <;> rfl
theorem sb1_ok {o i} : sb1 G o i fr (.ok v st) = sb2 G i fr v (evE G o fr st) := rfl
theorem sb1_ex {o i} : sb1 G o i fr (.exc c ks us st) = .exc c ks us fr st := rfl
theorem sb2_ok {i} : sb2 G i fr v (.ok x st) = sb3 fr v x (evE G i fr st) := rfl
theorem sb3_ok : sb3 fr v x (.ok y st) = sSt fr (setSub x y v st) := rfl
def sa2 (G : Gl) (f : Nat) (fr : Frame) (v : PV) (r : Res PV) : SRes := r.toS fr fun x st2 => sSt fr (setFld G x f v st2)
def sa1 (G : Gl) (o : CE) (f : Nat) (fr : Frame) (r : Res PV) : SRes := r.toS fr fun v st1 => sa2 G f fr v (evE G o fr st1)
theorem s_attr {o f e} : exS G (.setAttr o f e) fr st = sa1 G o f fr (evE G e fr st) := by
  rw [exS] <;> rfl
theorem sa1_ok {o f} : sa1 G o f fr (.ok v st) = sa2 G f fr v (evE G o fr st) := rfl
theorem sa1_ex {o f} : sa1 G o f fr (.exc c ks us st) = .exc c ks us fr st := rfl
theorem sa2_ok {f} : sa2 G f fr v (.ok x st) = sSt fr (setFld G x f v st) := rfl
def au2 (fr : Frame) (i : Nat) (o : BOp) (x : PV) (r : Res PV) : SRes := r.toS fr fun v st1 => match augI o x v with
  | some y => .nx (fr.set i (some (.int y))) st1
  | none => .stuck
def au1 (G : Gl) (fr : Frame) (i : Nat) (o : BOp) (e : CE) (st : Store) : Option (Option PV) → SRes
  | some (some x) => au2 fr i o x (evE G e fr st)
  | _ => .stuck
theorem s_aug {i o e} : exS G (.aug i o e) fr st = au1 G fr i o e st fr[i]? := by rw [exS] <;> rfl
theorem au1_s {i o e} : au1 G fr i o e st (some (some x)) = au2 fr i o x (evE G e fr st) := rfl
theorem au2_add {i} {a b : Int} : au2 fr i .add (.int a) (.ok (.int b) st) = .nx (fr.set i (some (.int (a + b)))) st := rfl
theorem au2_sub {i} {a b : Int} : au2 fr i .sub (.int a) (.ok (.int b) st) = .nx (fr.set i (some (.int (a - b)))) st := rfl
def ifB (G : Gl) (a b : List CS) (fr : Frame) (st : Store) : Option Bool → SRes
  | some true => exSs G a fr st
  | some false => exSs G b fr st
  | none => .stuck
def if1 (G : Gl) (a b : List CS) (fr : Frame) (r : Res PV) : SRes := r.toS fr fun v st1 => ifB G a b fr st1 (truth st1 v)
theorem s_ife {c a b} : exS G (.ife c a b) fr st = if1 G a b fr (evE G c fr st) := by
  rw [exS] <;> rfl
theorem if1_ok {a b} : if1 G a b fr (.ok v st) = ifB G a b fr st (truth st v) := rfl
theorem if1_ex {a b} : if1 G a b fr (.exc c ks us st) = .exc c ks us fr st := rfl
theorem ifB_t {a b} : ifB G a b fr st (some true) = exSs G a fr st := rfl
theorem ifB_f {a b} : ifB G a b fr st (some false) = exSs G b fr st := rfl
def foK (G : Gl) (tg : CT) (body : List CS) (wt : List (Nat × List PV)) (xs : List PV) (fr : Frame) (st : Store) : SRes := forL (fun v fr st => assignT tg v fr st) (exSs G body) wt xs fr st
def fo1 (G : Gl) (tg : CT) (body : List CS) (fr : Frame) (r : Res Stm) : SRes := r.toS fr fun s st1 => foK G tg body s.2 s.1 fr st1
theorem s_for {tg it body} : exS G (.for_ tg it body) fr st = fo1 G tg body fr (evI G it fr st) := by rw [exS] <;> rfl
theorem fo1_ok {tg body s} : fo1 G tg body fr (.ok s st) = foK G tg body s.2 s.1 fr st := rfl
theorem fo1_ex {tg body} : fo1 G tg body fr (.exc c ks us st) = .exc c ks us fr st := rfl
def foB (G : Gl) (tg : CT) (body : List CS) (wt : List (Nat × List PV)) (xs : List PV) : SRes → SRes
  | .nx fr st => foK G tg body wt xs fr st
  | .ct fr st => foK G tg body wt xs fr st
  | .bk fr st => .nx fr st
  | r => r
def foA (G : Gl) (tg : CT) (body : List CS) (wt : List (Nat × List PV)) (xs : List PV) (st : Store) : Option Frame → SRes
  | some fr1 => foB G tg body wt xs (exSs G body fr1 st)
  | none => .stuck
theorem fo_nil {tg body wt} : foK G tg body wt [] fr st = if watch st wt then .nx fr st else .stuck := rfl
theorem fo_cons {tg body wt} : foK G tg body wt (x :: xs) fr st = if watch st wt then foA G tg body wt xs st (assignT tg x fr st) else .stuck := by
  unfold foK
  rw [forL]
  by_cases hw : watch st wt = true
  · rw [if_pos hw, if_pos hw]
    cases assignT tg x fr st with
    | none => rfl
    | some fr1 =>
      show _ = foB G tg body wt xs (exSs G body fr1 st)
      dsimp only
      cases exSs G body fr1 st <;> rfl
  · rw [if_neg hw, if_neg hw]
theorem foA_s {tg body wt fr1} : foA G tg body wt xs st (some fr1) = foB G tg body wt xs (exSs G body fr1 st) := rfl
theorem foB_nx {tg body wt} : foB G tg body wt xs (.nx fr st) = foK G tg body wt xs fr st := rfl
theorem foB_ct {tg body wt} : foB G tg body wt xs (.ct fr st) = foK G tg body wt xs fr st := rfl
theorem foB_bk {tg body wt} : foB G tg body wt xs (.bk fr st) = .nx fr st := rfl
theorem foB_rt {tg body wt} : foB G tg body wt xs (.rt v st) = .rt v st := rfl
theorem foB_ex {tg body wt} : foB G tg body wt xs (.exc c ks us fr st) = .exc c ks us fr st := rfl
def whK (G : Gl) (c : CE) (body : List CS) (n : Nat) (fr : Frame) (st : Store) : SRes := whlL (evE G c) (exSs G body) n fr st
theorem s_whl {c body} : exS G (.whl c body) fr st = whK G c body whlFuel fr st := by rw [exS] <;> rfl
def whC (G : Gl) (c : CE) (body : List CS) (n : Nat) : SRes → SRes
  | .nx fr st => whK G c body n fr st
  | .ct fr st => whK G c body n fr st
  | .bk fr st => .nx fr st
  | r => r
def whB (G : Gl) (c : CE) (body : List CS) (n : Nat) (fr : Frame) (st : Store) : Option Bool → SRes
  | some true => whC G c body n (exSs G body fr st)
  | some false => .nx fr st
  | none => .stuck
def wh1 (G : Gl) (c : CE) (body : List CS) (n : Nat) (fr : Frame) (r : Res PV) : SRes := r.toS fr fun v st1 => whB G c body n fr st1 (truth st1 v)
theorem wh_succ {e body n} : whK G e body (n + 1) fr st = wh1 G e body n fr (evE G e fr st) := by
  unfold whK wh1
  rw [whlL]
  cases evE G e fr st with
  | exc => rfl
  | stuck => rfl
  | ok v st1 =>
    show _ = whB G e body n fr st1 (truth st1 v)
    dsimp only [Res.toS]
    cases truth st1 v with
    | none => rfl
    | some b =>
      cases b with
      | false => rfl
      | true =>
        show _ = whC G e body n (exSs G body fr st1)
        dsimp only
        cases exSs G body fr st1 <;> rfl
theorem wh1_ok {e body n} : wh1 G e body n fr (.ok v st) = whB G e body n fr st (truth st v) := rfl
theorem whB_t {e body n} : whB G e body n fr st (some true) = whC G e body n (exSs G body fr st) := rfl
theorem whB_f {e body n} : whB G e body n fr st (some false) = .nx fr st := rfl
theorem whC_nx {e body n} : whC G e body n (.nx fr st) = whK G e body n fr st := rfl
theorem whC_ct {e body n} : whC G e body n (.ct fr st) = whK G e body n fr st := rfl
theorem whC_bk {e body n} : whC G e body n (.bk fr st) = .nx fr st := rfl
theorem whC_rt {e body n} : whC G e body n (.rt v st) = .rt v st := rfl
def rt1 (fr : Frame) (r : Res PV) : SRes := r.toS fr fun v st1 => .rt v st1
theorem s_ret {e} : exS G (.ret e) fr st = rt1 fr (evE G e fr st) := by rw [exS] <;> rfl
theorem rt1_ok : rt1 fr (.ok v st) = .rt v st := rfl
theorem rt1_ex : rt1 fr (.exc c ks us st) = .exc c ks us fr st := rfl
theorem s_retN : exS G .retN fr st = .rt .non st := by rw [exS]
def rz1 (G : Gl) (k : Nat) (fr : Frame) (r : Res (List PV)) : SRes := r.toS fr fun vs st1 => raiseOf G k vs fr st1
theorem s_raise {k es} : exS G (.raise k es) fr st = rz1 G k fr (evEs G es fr st) := by rw [exS] <;> rfl
theorem rz1_ok {k} : rz1 G k fr (.ok vs st) = raiseOf G k vs fr st := rfl
theorem rz1_ex {k} : rz1 G k fr (.exc c ks us st) = .exc c ks us fr st := rfl
def tryK (G : Gl) (hs : List CS) : SRes → SRes
  | .exc c ks vs fr1 st1 => exH G hs c ks vs fr1 st1
  | r => r
theorem s_try {b hs} : exS G (.try_ b hs) fr st = tryK G hs (exSs G b fr st) := by
  rw [exS]; cases exSs G b fr st <;> rfl
theorem tryK_nx {hs} : tryK G hs (.nx fr st) = .nx fr st := rfl
theorem tryK_rt {hs} : tryK G hs (.rt v st) = .rt v st := rfl
theorem tryK_bk {hs} : tryK G hs (.bk fr st) = .bk fr st := rfl
theorem tryK_ct {hs} : tryK G hs (.ct fr st) = .ct fr st := rfl
theorem tryK_ex {hs} : tryK G hs (.exc c ks us fr st) = exH G hs c ks us fr st := rfl
theorem s_pass : exS G .pass fr st = .nx fr st := by rw [exS]
theorem s_brk : exS G .brk fr st = .bk fr st := by rw [exS]
theorem s_cnt : exS G .cnt fr st = .ct fr st := by rw [exS]
/-! clauses -/
def hdE (i : Nat) : SRes → SRes
  | .nx fr1 st1 => .nx (fr1.set i none) st1
  | .bk fr1 st1 => .bk (fr1.set i none) st1
  | .ct fr1 st1 => .ct (fr1.set i none) st1
  | .exc _ _ _ _ _ => .stuck
  | r => r
def hdN : SRes → SRes
  | .exc _ _ _ _ _ => .stuck
  | r => r
def hdB (T : Tab) (n : Nat) (xn : Option (Nat × List Nat × List PV)) (nm : Option Nat) (suite hs : List CS) (c : Nat) (ks : List Nat) (vs : List PV) (fr : Frame) (st : Store) : Bool → SRes
  | true => (match nm with
    | some i => hdE i (exSs (Gd T n (some (c, ks, vs))) suite (fr.set i none) st)
    | none => hdN (exSs (Gd T n none) suite fr st))
  | false => exH (Gd T n xn) hs c ks vs fr st
theorem h_nil : exH G [] c ks us fr st = .exc c ks us fr st := by rw [exH]; intros; contradiction
theorem h_cons {T n xn d nm suite hs} : exH (Gd T n xn) (.hnd d nm suite :: hs) c ks us fr st = hdB T n xn nm suite hs c ks us fr st ((Gd T n xn).sub c d) := by
  unfold exH
  cases (Gd T n xn).sub c d with
  | false => rfl
  | true =>
    cases nm with
    | none =>
      show _ = hdN (exSs (Gd T n none) suite fr st)
      have e : (⟨(Gd T n xn).call, (Gd T n xn).cls, none⟩ : Gl) = Gd T n none := rfl
      simp only [e]
      cases exSs (Gd T n none) suite fr st <;> rfl
    | some i =>
      show _ = hdE i (exSs (Gd T n (some (c, ks, us))) suite (fr.set i none) st)
      have e : (⟨(Gd T n xn).call, (Gd T n xn).cls, some (c, ks, us)⟩ : Gl) = Gd T n (some (c, ks, us)) := rfl
      simp only [e]
      cases exSs (Gd T n (some (c, ks, us))) suite (fr.set i none) st <;> rfl
theorem hdB_f {T n xn nm suite hs} : hdB T n xn nm suite hs c ks us fr st false = exH (Gd T n xn) hs c ks us fr st := rfl
theorem hdB_s {T n xn i suite hs} : hdB T n xn (some i) suite hs c ks us fr st true = hdE i (exSs (Gd T n (some (c, ks, us))) suite (fr.set i none) st) := rfl
theorem hdB_n {T n xn suite hs} : hdB T n xn none suite hs c ks us fr st true = hdN (exSs (Gd T n none) suite fr st) := rfl
theorem hdE_nx {i} : hdE i (.nx fr st) = .nx (fr.set i none) st := rfl
theorem hdE_bk {i} : hdE i (.bk fr st) = .bk (fr.set i none) st := rfl
theorem hdE_ct {i} : hdE i (.ct fr st) = .ct (fr.set i none) st := rfl
theorem hdE_rt {i} : hdE i (.rt v st) = .rt v st := rfl
theorem hdN_nx : hdN (.nx fr st) = .nx fr st := rfl
theorem hdN_bk : hdN (.bk fr st) = .bk fr st := rfl
theorem hdN_ct : hdN (.ct fr st) = .ct fr st := rfl
theorem hdN_rt : hdN (.rt v st) = .rt v st := rfl
/-! ends of a def -/
theorem fin_rt : fin st (.rt v st1) = gc st v st1 := rfl
theorem fin_nx : fin st (.nx fr st1) = gc st .non st1 := rfl
theorem fin_ex : fin st (.exc c ks us fr st1) = gcX st c ks us st1 := rfl
theorem gc_id : gc st v st = .ok v st := by unfold gc; rw [if_pos rfl]
theorem gcX_id : gcX st c ks us st = .exc c ks us st := by unfold gcX; rw [if_pos rfl]
end
end Sg

set_option Elab.async false
set_option linter.all false
set_option maxRecDepth 100000
set_option maxHeartbeats 2000000
/-! The engine: values. -/
namespace Sg
open Ev
open PySem (Str PyData)
section
variable {G : Gl} {fr : Frame} {st st1 : Store} {v x y z : PV} {vs xs ys tl : List PV} {a b : Int} {c : Nat} {ks : List Nat} {us : List PV}
/-! ### truth -/
theorem tr_bl {b} : truth st (.bl b) = some b := rfl
theorem tr_int : truth st (.int a) = some (decide (a ≠ 0)) := rfl
theorem tr_non : truth st .non = some false := rfl
theorem tr_tup : truth st (.tup xs) = some (!xs.isEmpty) := rfl
theorem tr_flst : truth st (.flst xs) = some (!xs.isEmpty) := rfl
/-! ### sizes -/
theorem sizeOk_le {n : Nat} (h : n ≤ 16777216) : sizeOk n = true := decide_eq_true h
theorem newT_ok (h : sizeOk xs.length = true) : newT st xs = .ok (.tup xs) st := if_pos h
theorem newL_ok (h : sizeOk xs.length = true) : newL st xs = .ok (.obj st.length) (st ++ [.lst xs]) := if_pos h
theorem newT_0 : newT st [] = .ok (.tup []) st := rfl
theorem newL_0 : newL st [] = .ok (.obj st.length) (st ++ [.lst []]) := rfl
theorem newT_1 : newT st [x] = .ok (.tup [x]) st := rfl
theorem newT_2 : newT st [x, y] = .ok (.tup [x, y]) st := rfl
theorem newT_3 : newT st [x, y, z] = .ok (.tup [x, y, z]) st := rfl
/-! ### arithmetic -/
theorem b_add : binop .add (.int a) (.int b) st = .ok (.int (a + b)) st := rfl
theorem b_sub : binop .sub (.int a) (.int b) st = .ok (.int (a - b)) st := rfl
theorem b_mul (h : mulOk a b = true) : binop .mul (.int a) (.int b) st = .ok (.int (a * b)) st := if_pos h
theorem b_mod (h : 0 < b) : binop .mod (.int a) (.int b) st = .ok (.int (a % b)) st := by
  show (if b = 0 then _ else _) = _
  rw [if_neg (by omega), Int.fmod_eq_emod_of_nonneg _ (by omega)]
theorem b_div (h : 0 < b) (h2 : b.natAbs.log2 < 9000) : binop .fdiv (.int a) (.int b) st = .ok (.int (a / b)) st := by
  show (if divOk b then _ else _) = _
  have e : divOk b = true := by
    unfold divOk
    rw [decide_eq_true (show b ≠ 0 by omega), decide_eq_true h2]
    rfl
  rw [if_pos e, Int.fdiv_eq_ediv_of_nonneg _ (by omega)]
theorem b_addT : binop .add (.tup xs) (.tup ys) st = newT st (xs ++ ys) := rfl
def addO (st : Store) : Option Cell → Option Cell → Res PV
  | some (.lst xs), some (.lst ys) => newL st (xs ++ ys)
  | _, _ => .stuck
theorem b_addO {j k : Nat} : binop .add (.obj j) (.obj k) st = addO st st[j]? st[k]? := by
  unfold binop addO
  dsimp only
  all_goals (
    cases st[j]? with
    | none => rfl
    | some c =>
      cases c with
      | lst xs =>
        cases st[k]? with
        | none => rfl
        | some d => cases d <;> rfl
      | _ => cases st[k]? <;> rfl
  )
theorem addO_l : addO st (some (.lst xs)) (some (.lst ys)) = newL st (xs ++ ys) := rfl
theorem b_pow (h : (decide (0 ≤ b) && (decide (b ≤ 1000000) && decide (a.natAbs < 2 ^ 64))) = true) : binop .pow (.int a) (.int b) st = .ok (.int (a ^ b.toNat)) st := if_pos h
theorem mulOk_bits {m n : Nat} (ha : a.natAbs < 2 ^ m) (hb : b.natAbs < 2 ^ n) (h : m + n ≤ 1000000) (h0 : 0 < m := by decide) (h1 : 0 < n := by decide) : mulOk a b = true := by
  unfold mulOk
  have lg : ∀ {k j : Nat}, 0 < j → k < 2 ^ j → k.log2 < j := fun {k j} hj hk => by
    rcases Nat.eq_zero_or_pos k with h0 | hp
    · subst h0; simpa using hj
    · exact (Nat.log2_lt (Nat.ne_of_gt hp)).mpr hk
  have := lg h0 ha
  have := lg h1 hb
  exact decide_eq_true (by omega)
theorem log2_bits {n m : Nat} (ha : n < 2 ^ m) (h0 : 0 < m := by decide) : n.log2 < m := by
  rcases Nat.eq_zero_or_pos n with h0' | hp
  · subst h0'; simpa using h0
  · exact (Nat.log2_lt (Nat.ne_of_gt hp)).mpr ha
/-! ### data -/
mutual
def dat : PV → PyData
  | .non => .none
  | .bl b => .bool b
  | .int i => .int i
  | .str s => .str s
  | .tup xs => .tuple (dats xs)
  | .flst xs => .list (dats xs)
  | _ => .none
def dats : List PV → List PyData
  | [] => []
  | x :: xs => dat x :: dats xs
end
mutual
/-- data of a depth below n, no cell -/
def pur : Nat → PV → Bool
  | 0, _ => false
  | n + 1, .tup xs => purs n xs
  | n + 1, .flst xs => purs n xs
  | _ + 1, .obj _ => false
  | _ + 1, .ins _ _ _ => false
  | _ + 1, _ => true
def purs : Nat → List PV → Bool
  | _, [] => true
  | n, x :: xs => pur n x && purs n xs
end
theorem omap_dats {n : Nat} {xs : List PV} (h : ∀ x ∈ xs, toD n st x = some (dat x)) : omap (toD n st) xs = some (dats xs) := by
  induction xs with
  | nil => rw [dats]; rfl
  | cons x xs ih =>
    rw [omap, h x List.mem_cons_self, ih fun y hy => h y (List.mem_cons_of_mem _ hy), dats]
theorem purs_mem {n : Nat} : ∀ {xs : List PV}, purs n xs = true → ∀ x ∈ xs, pur n x = true
  | [], _, _, h => by cases h
  | y :: ys, h, x, hx => by
    rw [purs, Bool.and_eq_true] at h
    rcases List.mem_cons.mp hx with rfl | hx
    · exact h.1
    · exact purs_mem h.2 x hx
theorem purs_of {n : Nat} : ∀ {xs : List PV}, (∀ x ∈ xs, pur n x = true) → purs n xs = true
  | [], _ => by rw [purs]
  | y :: ys, h => by
    rw [purs, h y List.mem_cons_self, purs_of fun x hx => h x (List.mem_cons_of_mem _ hx)]; rfl
theorem toD_pur : ∀ {n : Nat} {v : PV}, pur n v = true → toD n st v = some (dat v)
  | 0, v, h => by rw [pur] at h; cases h
  | n + 1, v, h => by
    cases v with
    | non => rw [toD, dat]
    | bl b => rw [toD, dat]
    | int b => rw [toD, dat]
    | str b => rw [toD, dat]
    | tup xs =>
      rw [pur] at h
      rw [toD, omap_dats (fun x hx => toD_pur (purs_mem h x hx)), dat]; rfl
    | flst xs =>
      rw [pur] at h
      rw [toD, omap_dats (fun x hx => toD_pur (purs_mem h x hx)), dat]; rfl
    | obj a => rw [pur] at h; cases h
    | ins c ks vs => rw [pur] at h; cases h
/-- == of data -/
def veq (x y : PV) : Bool := PyData.eqv (dat x) (dat y)
def veqs (xs ys : List PV) : Bool := PyData.eqvAll (dats xs) (dats ys)
theorem pyEq_pur (hx : pur 12 x = true) (hy : pur 12 y = true) : pyEq st x y = some (veq x y) := by
  unfold pyEq
  rw [show dDepth = 12 from rfl, toD_pur hx, toD_pur hy]; rfl
theorem clsOf_pur {n : Nat} (hx : pur n x = true) : clsOf st x = none := by
  cases n with
  | zero => rw [pur] at hx; cases hx
  | succ n =>
    cases x with
    | obj a => rw [pur] at hx; cases hx
    | ins c ks vs => rw [pur] at hx; cases hx
    | _ => rfl
theorem cm_eq (hx : pur 12 x = true) (hy : pur 12 y = true) : compare G .eq x y st = .ok (.bl (veq x y)) st := by
  unfold Ev.compare
  rw [clsOf_pur hx]
  show (match pyEq st x y with
    | some k => Res.ok (PV.bl k) st
    | none => .stuck) = _
  rw [pyEq_pur hx hy]
theorem cm_ne (hx : pur 12 x = true) (hy : pur 12 y = true) : compare G .ne x y st = .ok (.bl (!veq x y)) st := by
  unfold Ev.compare
  rw [clsOf_pur hx]
  show (match pyEq st x y with
    | some k => Res.ok (PV.bl (!k)) st
    | none => .stuck) = _
  rw [pyEq_pur hx hy]
theorem cp_eq (hx : pur 12 x = true) (hy : pur 12 y = true) : cmpop .eq x y st = .ok (.bl (veq x y)) st := by
  show (match pyEq st x y with
    | some k => Res.ok (PV.bl k) st
    | none => .stuck) = _
  rw [pyEq_pur hx hy]
theorem cp_ne (hx : pur 12 x = true) (hy : pur 12 y = true) : cmpop .ne x y st = .ok (.bl (!veq x y)) st := by
  show (match pyEq st x y with
    | some k => Res.ok (PV.bl (!k)) st
    | none => .stuck) = _
  rw [pyEq_pur hx hy]
def vmem (x : PV) : List PV → Bool
  | [] => false
  | y :: ys => veq y x || vmem x ys
theorem any_vmem : ∀ {ys : List PV}, ((dats ys).any fun y => PyData.eqv y (dat x)) = vmem x ys
  | [] => by rw [dats]; rfl
  | y :: ys => by rw [dats, List.any_cons, any_vmem]; rfl
theorem cm_in (hx : pur 12 x = true) (hy : pur 12 (.tup ys) = true) : compare G .inn x (.tup ys) st = .ok (.bl (vmem x ys)) st := by
  show (match isIn st x (.tup ys) with
    | some k => Res.ok (PV.bl k) st
    | none => .stuck) = _
  unfold isIn
  rw [show dDepth = 12 from rfl, toD_pur hx, toD_pur hy, dat, ← any_vmem]
theorem cm_notin (hx : pur 12 x = true) (hy : pur 12 (.tup ys) = true) : compare G .notin x (.tup ys) st = .ok (.bl (!vmem x ys)) st := by
  show (match isIn st x (.tup ys) with
    | some k => Res.ok (PV.bl (!k)) st
    | none => .stuck) = _
  unfold isIn
  rw [show dDepth = 12 from rfl, toD_pur hx, toD_pur hy, dat, ← any_vmem]
theorem cm_lt : compare G .lt (.int a) (.int b) st = .ok (.bl (decide (a < b))) st := rfl
theorem cm_le : compare G .le (.int a) (.int b) st = .ok (.bl (decide (a ≤ b))) st := rfl
theorem cm_gt : compare G .gt (.int a) (.int b) st = .ok (.bl (decide (b < a))) st := rfl
theorem cm_ge : compare G .ge (.int a) (.int b) st = .ok (.bl (decide (b ≤ a))) st := rfl
theorem cm_is : compare G .is x .non st = .ok (.bl (isNon x)) st := rfl
theorem cm_isnot : compare G .isnot x .non st = .ok (.bl (!isNon x)) st := rfl
theorem cm_isb {p q : Bool} : compare G .is (.bl p) (.bl q) st = .ok (.bl (decide (p = q))) st := rfl
theorem cm_isnotb {p q : Bool} : compare G .isnot (.bl p) (.bl q) st = .ok (.bl (!decide (p = q))) st := rfl
theorem cp_lt : cmpop .lt (.int a) (.int b) st = .ok (.bl (decide (a < b))) st := rfl
theorem cp_le : cmpop .le (.int a) (.int b) st = .ok (.bl (decide (a ≤ b))) st := rfl
theorem cp_gt : cmpop .gt (.int a) (.int b) st = .ok (.bl (decide (b < a))) st := rfl
theorem cp_ge : cmpop .ge (.int a) (.int b) st = .ok (.bl (decide (b ≤ a))) st := rfl
theorem in_non : isNon .non = true := rfl
theorem in_int : isNon (.int a) = false := rfl
theorem in_bl {p} : isNon (.bl p) = false := rfl
theorem in_tup : isNon (.tup xs) = false := rfl
theorem in_flst : isNon (.flst xs) = false := rfl
theorem in_str {s} : isNon (.str s) = false := rfl
theorem in_obj {k} : isNon (.obj k) = false := rfl
theorem in_ins {k} : isNon (.ins k ks us) = false := rfl
/-! data: what is data -/
theorem pu_non {n} : pur (n + 1) .non = true := by rw [pur] <;> intros <;> contradiction
theorem pu_int {n} : pur (n + 1) (.int a) = true := by rw [pur] <;> intros <;> contradiction
theorem pu_bl {n p} : pur (n + 1) (.bl p) = true := by rw [pur] <;> intros <;> contradiction
theorem pu_str {n s} : pur (n + 1) (.str s) = true := by rw [pur] <;> intros <;> contradiction
theorem pu_tup {n} : pur (n + 1) (.tup xs) = purs n xs := by rw [pur]
theorem pu_flst {n} : pur (n + 1) (.flst xs) = purs n xs := by rw [pur]
theorem pus_nil {n} : purs n [] = true := by rw [purs]
theorem pus_cons {n} : purs n (x :: xs) = (pur n x && purs n xs) := by rw [purs]
/-! data: == -/
theorem ve_int : veq (.int a) (.int b) = decide (a = b) := by
  unfold veq; rw [dat, dat, PyData.eqv]; by_cases h : a = b <;> simp [h]
theorem ve_str {s t : Str} : veq (.str s) (.str t) = decide (s = t) := by
  unfold veq; rw [dat, dat, PyData.eqv]; by_cases h : s = t <;> simp [h]
theorem ve_bl {p q : Bool} : veq (.bl p) (.bl q) = decide (p = q) := by
  unfold veq; rw [dat, dat, PyData.eqv]; cases p <;> cases q <;> rfl
theorem ve_non : veq .non .non = true := by unfold veq; rw [dat, PyData.eqv]
theorem ve_tup : veq (.tup xs) (.tup ys) = veqs xs ys := by unfold veq veqs; rw [dat, dat, PyData.eqv]
theorem ve_flst : veq (.flst xs) (.flst ys) = veqs xs ys := by unfold veq veqs; rw [dat, dat, PyData.eqv]
theorem vs_nil : veqs [] [] = true := by unfold veqs; rw [dats, PyData.eqvAll]
theorem vs_cons : veqs (x :: xs) (y :: ys) = (veq x y && veqs xs ys) := by unfold veq veqs; rw [dats, dats, PyData.eqvAll]
theorem vs_nc : veqs [] (y :: ys) = false := by unfold veqs; rw [dats, dats, PyData.eqvAll]
theorem vs_cn : veqs (x :: xs) [] = false := by unfold veqs; rw [dats, dats, PyData.eqvAll]
theorem ve_nt_i : veq .non (.int a) = false := by unfold veq; rw [dat, dat, PyData.eqv]
theorem ve_nt_b {p} : veq .non (.bl p) = false := by unfold veq; rw [dat, dat, PyData.eqv]
theorem ve_nt_s {s} : veq .non (.str s) = false := by unfold veq; rw [dat, dat, PyData.eqv]
theorem ve_nt_t : veq .non (.tup xs) = false := by unfold veq; rw [dat, dat, PyData.eqv]
theorem ve_nt_l : veq .non (.flst xs) = false := by unfold veq; rw [dat, dat, PyData.eqv]
theorem ve_i_n : veq (.int a) .non = false := by unfold veq; rw [dat, dat, PyData.eqv]
theorem ve_i_s {s} : veq (.int a) (.str s) = false := by unfold veq; rw [dat, dat, PyData.eqv]
theorem ve_i_t : veq (.int a) (.tup xs) = false := by unfold veq; rw [dat, dat, PyData.eqv]
theorem ve_i_l : veq (.int a) (.flst xs) = false := by unfold veq; rw [dat, dat, PyData.eqv]
theorem ve_i_b {p} : veq (.int a) (.bl p) = decide (a = if p then 1 else 0) := by unfold veq; rw [dat, dat, PyData.eqv]; rfl
theorem ve_b_i {p : Bool} : veq (.bl p) (.int a) = decide ((if p then 1 else 0) = a) := by unfold veq; rw [dat, dat, PyData.eqv]; rfl
theorem ve_b_n {p} : veq (.bl p) .non = false := by unfold veq; rw [dat, dat, PyData.eqv]
theorem ve_b_s {p s} : veq (.bl p) (.str s) = false := by unfold veq; rw [dat, dat, PyData.eqv]
theorem ve_b_t {p} : veq (.bl p) (.tup xs) = false := by unfold veq; rw [dat, dat, PyData.eqv]
theorem ve_b_l {p} : veq (.bl p) (.flst xs) = false := by unfold veq; rw [dat, dat, PyData.eqv]
theorem ve_s_n {s} : veq (.str s) .non = false := by unfold veq; rw [dat, dat, PyData.eqv]
theorem ve_s_i {s} : veq (.str s) (.int a) = false := by unfold veq; rw [dat, dat, PyData.eqv]
theorem ve_s_b {s p} : veq (.str s) (.bl p) = false := by unfold veq; rw [dat, dat, PyData.eqv]
theorem ve_s_t {s} : veq (.str s) (.tup xs) = false := by unfold veq; rw [dat, dat, PyData.eqv]
theorem ve_s_l {s} : veq (.str s) (.flst xs) = false := by unfold veq; rw [dat, dat, PyData.eqv]
theorem ve_t_n : veq (.tup xs) .non = false := by unfold veq; rw [dat, dat, PyData.eqv]
theorem ve_t_i : veq (.tup xs) (.int a) = false := by unfold veq; rw [dat, dat, PyData.eqv]
theorem ve_t_b {p} : veq (.tup xs) (.bl p) = false := by unfold veq; rw [dat, dat, PyData.eqv]
theorem ve_t_s {s} : veq (.tup xs) (.str s) = false := by unfold veq; rw [dat, dat, PyData.eqv]
theorem ve_t_l : veq (.tup xs) (.flst ys) = false := by unfold veq; rw [dat, dat, PyData.eqv]
theorem ve_l_n : veq (.flst xs) .non = false := by unfold veq; rw [dat, dat, PyData.eqv]
theorem ve_l_i : veq (.flst xs) (.int a) = false := by unfold veq; rw [dat, dat, PyData.eqv]
theorem ve_l_b {p} : veq (.flst xs) (.bl p) = false := by unfold veq; rw [dat, dat, PyData.eqv]
theorem ve_l_s {s} : veq (.flst xs) (.str s) = false := by unfold veq; rw [dat, dat, PyData.eqv]
theorem ve_l_t : veq (.flst xs) (.tup ys) = false := by unfold veq; rw [dat, dat, PyData.eqv]
theorem vm_nil : vmem x [] = false := rfl
theorem vm_cons : vmem x (y :: ys) = (veq y x || vmem x ys) := rfl
/-! ### kinds -/
theorem ty_int {sub t} : isTy sub st (.int a) t = some (match t with | .int => true | _ => false) := rfl
theorem ty_bl {sub t p} : isTy sub st (.bl p) t = some (match t with | .bool => true | .int => true | _ => false) := rfl
theorem ty_non {sub t} : isTy sub st .non t = some false := rfl
theorem ty_str {sub t s} : isTy sub st (.str s) t = some (match t with | .str => true | _ => false) := rfl
theorem ty_tup {sub t} : isTy sub st (.tup xs) t = some (match t with | .tuple => true | _ => false) := rfl
theorem ty_flst {sub t} : isTy sub st (.flst xs) t = some (match t with | .list => true | _ => false) := rfl
theorem ty_own {sub k d} : isTy sub st (.ins k ks us) (.own d) = some (sub k d) := rfl
theorem ty_insl {sub k} : isTy sub st (.ins k ks us) .list = some false := rfl
theorem ty_inst {sub k} : isTy sub st (.ins k ks us) .tuple = some false := rfl
theorem ty_insi {sub k} : isTy sub st (.ins k ks us) .int = some false := rfl
theorem ty_insb {sub k} : isTy sub st (.ins k ks us) .bool = some false := rfl
theorem ty_inss {sub k} : isTy sub st (.ins k ks us) .str = some false := rfl
def tyO (sub : Nat → Nat → Bool) (t : Ty) : Option Cell → Option Bool
  | some (.lst _) => some (match t with | .list => true | _ => false)
  | some (.ins c _ _) => (match t with | .own d => some (sub c d) | .verr => none | _ => some false)
  | _ => none
theorem ty_obj {sub k t} : isTy sub st (.obj k) t = tyO sub t st[k]? := by
  unfold isTy tyO
  try dsimp only
  all_goals (
    cases st[k]? with
    | none => rfl
    | some c => cases c <;> cases t <;> rfl
  )
theorem tyO_l {sub t} : tyO sub t (some (.lst xs)) = some (match t with | .list => true | _ => false) := rfl
theorem tyO_own {sub k d} : tyO sub (.own d) (some (.ins k ks us)) = some (sub k d) := rfl
theorem tyO_il {sub k} : tyO sub .list (some (.ins k ks us)) = some false := rfl
theorem tyO_it {sub k} : tyO sub .tuple (some (.ins k ks us)) = some false := rfl
theorem tyO_ii {sub k} : tyO sub .int (some (.ins k ks us)) = some false := rfl
theorem tyO_ib {sub k} : tyO sub .bool (some (.ins k ks us)) = some false := rfl
theorem tyO_is {sub k} : tyO sub .str (some (.ins k ks us)) = some false := rfl
/-! ### places -/
theorem ixN_nat {n j : Nat} (h : j < n) : ixN n (j : Int) = some j := by
  unfold ixN; rw [if_pos (by omega), if_pos (by omega)]; rfl
theorem at_nat {α : Type} {l : List α} {j : Nat} : atI l (j : Int) = l[j]? := by
  unfold atI
  by_cases h : j < l.length
  · rw [ixN_nat h]
  · have e : ixN l.length (j : Int) = none := by
      unfold ixN; rw [if_pos (by omega), if_neg (by omega)]
    rw [e, List.getElem?_eq_none (by omega)]
theorem at_pos {α : Type} {l : List α} {i : Int} (h : 0 ≤ i) : atI l i = l[i.toNat]? := by
  obtain ⟨j, rfl⟩ := Int.eq_ofNat_of_zero_le h
  rw [at_nat]; rfl
theorem at_mem {α : Type} {l : List α} {i : Int} (h0 : 0 ≤ i) (h1 : i < l.length) : ∃ x ∈ l, atI l i = some x := by
  rw [at_pos h0]
  have hl : i.toNat < l.length := by omega
  exact ⟨l[i.toNat], List.getElem_mem hl, List.getElem?_eq_getElem hl⟩
theorem at_0 {α : Type} {a0 : α} {l : List α} : atI (a0 :: l) 0 = some a0 := at_nat (j := 0)
theorem at_1 {α : Type} {a0 a1 : α} {l : List α} : atI (a0 :: a1 :: l) 1 = some a1 := at_nat (j := 1)
theorem at_2 {α : Type} {a0 a1 a2 : α} {l : List α} : atI (a0 :: a1 :: a2 :: l) 2 = some a2 := at_nat (j := 2)
theorem at_3 {α : Type} {a0 a1 a2 a3 : α} {l : List α} : atI (a0 :: a1 :: a2 :: a3 :: l) 3 = some a3 := at_nat (j := 3)
theorem at_4 {α : Type} {a0 a1 a2 a3 a4 : α} {l : List α} : atI (a0 :: a1 :: a2 :: a3 :: a4 :: l) 4 = some a4 := at_nat (j := 4)
theorem ixN_0 {n : Nat} (h : 0 < n) : ixN n 0 = some 0 := ixN_nat (j := 0) h
theorem ixN_1 {n : Nat} (h : 1 < n) : ixN n 1 = some 1 := ixN_nat (j := 1) h
theorem ixN_2 {n : Nat} (h : 2 < n) : ixN n 2 = some 2 := ixN_nat (j := 2) h
theorem ixN_3 {n : Nat} (h : 3 < n) : ixN n 3 = some 3 := ixN_nat (j := 3) h
theorem ix_tup : index (.tup xs) (.int a) st = opt st (atI xs a) := rfl
theorem ix_flst : index (.flst xs) (.int a) st = opt st (atI xs a) := rfl
def ixO (a : Int) (st : Store) : Option Cell → Res PV
  | some (.lst xs) => opt st (atI xs a)
  | _ => .stuck
theorem ix_obj {k : Nat} : index (.obj k) (.int a) st = ixO a st st[k]? := by
  show (match seqOf st (.obj k) with
    | some xs => opt st (atI xs a)
    | none => .stuck) = _
  unfold seqOf ixO
  try dsimp only
  all_goals (
    cases st[k]? with
    | none => rfl
    | some c => cases c <;> rfl
  )
theorem ixO_l : ixO a st (some (.lst xs)) = opt st (atI xs a) := rfl
theorem opt_n {α : Type} : opt st (none : Option α) = .stuck := rfl
/-! ### built-ins -/
theorem bl_abs : builtin .abs [.int a] st = .ok (.int (if a < 0 then -a else a)) st := rfl
theorem bl_int : builtin .int [.int a] st = .ok (.int a) st := rfl
theorem bl_intb {p : Bool} : builtin .int [.bl p] st = .ok (.int (if p then 1 else 0)) st := rfl
theorem bl_lenT : builtin .len [.tup xs] st = .ok (.int xs.length) st := rfl
theorem bl_lenF : builtin .len [.flst xs] st = .ok (.int xs.length) st := rfl
def lenO (st : Store) : Option Cell → Res PV
  | some (.lst xs) => .ok (.int xs.length) st
  | _ => .stuck
theorem bl_lenO {k : Nat} : builtin .len [.obj k] st = lenO st st[k]? := by
  show (match seqOf st (.obj k) with
    | some xs => Res.ok (PV.int xs.length) st
    | none => .stuck) = _
  unfold seqOf lenO
  try dsimp only
  all_goals (
    cases st[k]? with
    | none => rfl
    | some c => cases c <;> rfl
  )
theorem lenO_l : lenO st (some (.lst xs)) = .ok (.int xs.length) st := rfl
theorem bl_tupT : builtin .tuple [.tup xs] st = .ok (.tup xs) st := rfl
theorem bl_tupF : builtin .tuple [.flst xs] st = .ok (.tup xs) st := rfl
def tupO (st : Store) : Option Cell → Res PV
  | some (.lst xs) => .ok (.tup xs) st
  | _ => .stuck
theorem bl_tupO {k : Nat} : builtin .tuple [.obj k] st = tupO st st[k]? := by
  show (match seqOf st (.obj k) with
    | some xs => Res.ok (PV.tup xs) st
    | none => .stuck) = _
  unfold seqOf tupO
  try dsimp only
  all_goals (
    cases st[k]? with
    | none => rfl
    | some c => cases c <;> rfl
  )
theorem tupO_l : tupO st (some (.lst xs)) = .ok (.tup xs) st := rfl
def lstO (st : Store) : Option Cell → Res PV
  | some (.lst xs) => newL st xs
  | _ => .stuck
theorem bl_lstO {k : Nat} : builtin .list [.obj k] st = lstO st st[k]? := by
  show (match seqOf st (.obj k) with
    | some xs => newL st xs
    | none => .stuck) = _
  unfold seqOf lstO
  try dsimp only
  all_goals (
    cases st[k]? with
    | none => rfl
    | some c => cases c <;> rfl
  )
theorem lstO_l : lstO st (some (.lst xs)) = newL st xs := rfl
theorem bl_lstT : builtin .list [.tup xs] st = newL st xs := rfl
theorem bl_lstF : builtin .list [.flst xs] st = newL st xs := rfl
theorem bl_min2 : builtin .min [.int a, .int b] st = .ok (.int (if b < a then b else a)) st := rfl
theorem bl_max2 : builtin .max [.int a, .int b] st = .ok (.int (if b > a then b else a)) st := rfl
/-! ### lists -/
def ilO : Option Cell → Option Bool
  | some (.lst _) => some true
  | _ => none
theorem il_obj {k : Nat} : isLst st (.obj k) = ilO st[k]? := by
  unfold isLst ilO
  try dsimp only
  all_goals (
    cases st[k]? with
    | none => rfl
    | some c => cases c <;> rfl
  )
theorem ilO_l : ilO (some (.lst xs)) = some true := rfl
def lmO (m : LM) (k : Nat) (vs : List PV) (st : Store) : Option Cell → Res PV
  | some (.lst xs) => (match m, vs with
      | .append, [v] => setL st k (xs ++ [v]) .non
      | .pop, [] => (match xs[xs.length - 1]? with
        | some v => setL st k xs.dropLast v
        | none => .stuck)
      | .popAt, [.int i] => (match ixN xs.length i with
        | some j => (match xs[j]? with
          | some v => setL st k (xs.eraseIdx j) v
          | none => .stuck)
        | none => .stuck)
      | _, _ => .stuck)
  | _ => .stuck
theorem lm_obj {m} {k : Nat} : lmeth m (.obj k) vs st = lmO m k vs st st[k]? := by
  unfold lmeth lmO
  dsimp only
  all_goals (
    cases st[k]? with
    | none => rfl
    | some c =>
      cases c with
      | lst ys => rfl
      | _ => rfl
  )
theorem lmO_app {k : Nat} : lmO .append k [v] st (some (.lst xs)) = setL st k (xs ++ [v]) .non := rfl
theorem lmO_pop {k : Nat} : lmO .pop k [] st (some (.lst (xs ++ [v]))) = setL st k xs v := by
  unfold lmO
  have e : (xs ++ [v])[(xs ++ [v]).length - 1]? = some v := by simp
  dsimp only
  rw [e, List.dropLast_concat]
theorem setL_ok {k : Nat} (h : sizeOk xs.length = true) : setL st k xs v = .ok v (st.set k (.lst xs)) := if_pos h
theorem stm_tup : stmOf st (.tup xs) = some (xs, []) := rfl
theorem stm_flst : stmOf st (.flst xs) = some (xs, []) := rfl
def stmO (k : Nat) : Option Cell → Option Stm
  | some (.lst xs) => some (xs, [(k, xs)])
  | _ => none
theorem stm_obj {k : Nat} : stmOf st (.obj k) = stmO k st[k]? := by
  unfold stmOf stmO
  try dsimp only
  all_goals (
    cases st[k]? with
    | none => rfl
    | some c => cases c <;> rfl
  )
theorem stmO_l {k : Nat} : stmO k (some (.lst xs)) = some (xs, [(k, xs)]) := rfl
theorem wt_nil : watch st [] = true := rfl
mutual
theorem beq_refl : ∀ v : PV, PV.beq v v = true
  | .non => by rw [PV.beq]
  | .bl b => by rw [PV.beq]; simp
  | .int b => by rw [PV.beq]; simp
  | .str b => by rw [PV.beq]; simp
  | .tup xs => by rw [PV.beq]; exact beqs_refl xs
  | .flst xs => by rw [PV.beq]; exact beqs_refl xs
  | .obj a => by rw [PV.beq]; simp
  | .ins c ks vs => by rw [PV.beq]; simp [beqs_refl vs]
theorem beqs_refl : ∀ vs : List PV, PV.beqs vs vs = true
  | [] => by rw [PV.beqs]
  | v :: vs => by rw [PV.beqs, beq_refl v, beqs_refl vs]; rfl
end
theorem cellbeq_refl : ∀ c : Cell, Cell.beq c c = true
  | .lst xs => by unfold Cell.beq; exact beqs_refl xs
  | .ins c ks vs => by unfold Cell.beq; simp [beqs_refl vs]
  | .dead => rfl
theorem storebeq_refl : ∀ s : Store, Store.beq s s = true
  | [] => rfl
  | c :: s => by unfold Store.beq; rw [cellbeq_refl, storebeq_refl s]; rfl
def wtO (xs : List PV) : Option Cell → Bool
  | some (.lst ys) => PV.beqs ys xs
  | _ => false
theorem wt_cons {k : Nat} {r} : watch st ((k, xs) :: r) = (wtO xs st[k]? && watch st r) := by
  rw [watch]; unfold wtO
  cases st[k]? with
  | none => rfl
  | some c => cases c <;> rfl
theorem wtO_l : wtO xs (some (.lst xs)) = true := beqs_refl xs
theorem if_t {α : Type} {p q : α} : (if true = true then p else q) = p := if_pos rfl
theorem if_f {α : Type} {p q : α} : (if false = true then p else q) = q := if_neg (by decide)
/-! ### fields -/
theorem lg_hit {α : Type} {f : Nat} {ks : List Nat} {w : α} {ws : List α} : lookG f (f :: ks) (w :: ws) = some w := by rw [lookG, if_pos rfl]
theorem lg_miss {α : Type} {f k : Nat} {ks : List Nat} {w : α} {ws : List α} (h : k ≠ f) : lookG f (k :: ks) (w :: ws) = lookG f ks ws := by rw [lookG, if_neg h]
def atO (f : Nat) (st : Store) : Option Cell → Res PV
  | some (.ins _ ks vs) => opt st (lookG f ks vs)
  | _ => .stuck
theorem attrOf_obj {f k} : attrOf f (.obj k) st = atO f st st[k]? := by
  unfold attrOf atO
  try dsimp only
  all_goals (
    cases st[k]? with
    | none => rfl
    | some c => cases c <;> rfl
  )
theorem atO_i {f k} : atO f st (some (.ins k ks us)) = opt st (lookG f ks us) := rfl
def trO : Option Cell → Option Bool
  | some (.lst xs) => some (!xs.isEmpty)
  | _ => none
theorem tr_obj {k} : truth st (.obj k) = trO st[k]? := by
  unfold truth trO
  try dsimp only
  all_goals (
    cases st[k]? with
    | none => rfl
    | some c => cases c <;> rfl
  )
theorem trO_l : trO (some (.lst xs)) = some (!xs.isEmpty) := rfl
def subO (a : Nat) (k : Int) (v : PV) (st : Store) : Option Cell → Option Store
  | some (.lst xs) => (match ixN xs.length k with
      | some j => some (st.set a (.lst (xs.set j v)))
      | none => none)
  | _ => none
theorem sub_obj {k : Nat} : setSub (.obj k) (.int a) v st = subO k a v st st[k]? := by
  unfold setSub subO
  dsimp only
  all_goals (
    cases st[k]? with
    | none => rfl
    | some c => cases c <;> rfl
  )
def subI (k : Nat) (v : PV) (st : Store) (xs : List PV) : Option Nat → Option Store
  | some j => some (st.set k (.lst (xs.set j v)))
  | none => none
theorem subO_l {k : Nat} : subO k a v st (some (.lst xs)) = subI k v st xs (ixN xs.length a) := by
  unfold subO subI; dsimp only
theorem subI_s {k j : Nat} : subI k v st xs (some j) = some (st.set k (.lst (xs.set j v))) := rfl
/-! ### ranges -/
theorem rg_1 (h : smallI a = true) : rangeOf [.int a] = some (rangeL 0 a.toNat) := if_pos h
theorem rg_2 (h : (smallI a && smallI b) = true) : rangeOf [.int a, .int b] = some (rangeL a (b - a).toNat) := if_pos h
theorem smallI_of (h : -1000000000 ≤ a) (h2 : a ≤ 1000000000) : smallI a = true := by
  unfold smallI
  rw [decide_eq_true (show -(2 ^ 62) ≤ a by omega), decide_eq_true (show a < 2 ^ 62 by omega)]; rfl
/-! ### the store -/
theorem sg_app {s t : Store} {k : Nat} : (s ++ t)[s.length + k]? = t[k]? := by
  rw [List.getElem?_append_right (by omega)]; congr 1; omega
theorem sg_app0 {s t : Store} : (s ++ t)[s.length]? = t[0]? := sg_app (k := 0)
theorem ss_app {s t : Store} {k : Nat} {cl : Cell} : (s ++ t).set (s.length + k) cl = s ++ t.set k cl := by
  rw [List.set_append_right _ _ (by omega)]; congr 2; omega
theorem ss_app0 {s t : Store} {cl : Cell} : (s ++ t).set s.length cl = s ++ t.set 0 cl := ss_app (k := 0)
theorem sl_app {s t : Store} : (s ++ t).length = s.length + t.length := List.length_append
mutual
theorem cl_pur : ∀ {n m : Nat} {v : PV}, pur n v = true → closed m v = true
  | 0, _, _, h => by rw [pur] at h; cases h
  | n + 1, m, .non, _ => by unfold closed; rfl
  | n + 1, m, .bl _, _ => by unfold closed; rfl
  | n + 1, m, .int _, _ => by unfold closed; rfl
  | n + 1, m, .str _, _ => by unfold closed; rfl
  | n + 1, m, .tup xs, h => by rw [pur] at h; rw [closed]; exact cls_pur h
  | n + 1, m, .flst xs, h => by rw [pur] at h; rw [closed]; exact cls_pur h
  | n + 1, m, .obj _, h => by rw [pur] at h; cases h
  | n + 1, m, .ins _ _ _, h => by rw [pur] at h; cases h
theorem cls_pur : ∀ {n m : Nat} {vs : List PV}, purs n vs = true → closeds m vs = true
  | n, m, [], _ => by rw [closeds]
  | n, m, v :: vs, h => by
    rw [purs, Bool.and_eq_true] at h
    rw [closeds, cl_pur h.1, cls_pur h.2]; rfl
end
theorem gc_any : ∃ s, gc st v st1 = .ok v s := by
  unfold gc
  split
  · exact ⟨_, rfl⟩
  · split <;> exact ⟨_, rfl⟩
theorem gc_len (h : st1.length = st.length) : gc st v st1 = .ok v st1 := by unfold gc; rw [if_pos h]
theorem gcX_len (h : st1.length = st.length) : gcX st c ks us st1 = .exc c ks us st1 := by unfold gcX; rw [if_pos h]
theorem gc_c2 {c0 c1 d0 d1 : Cell} {t : Store} : gc (c0 :: c1 :: t) v (d0 :: d1 :: t) = .ok v (d0 :: d1 :: t) := gc_len rfl
theorem gcX_c2 {c0 c1 d0 d1 : Cell} {t : Store} : gcX (c0 :: c1 :: t) c ks us (d0 :: d1 :: t) = .exc c ks us (d0 :: d1 :: t) := gcX_len rfl
theorem gc_drop {t : Store} (h : closed st.length v = true) : gc st v (st ++ t) = .ok v st := by
  unfold gc
  by_cases e : (st ++ t).length = st.length
  · rw [if_pos e]
    have : t = [] := by
      rw [List.length_append] at e
      exact List.eq_nil_of_length_eq_zero (by omega)
    subst this; rw [List.append_nil]
  · rw [if_neg e]
    have k : gcOk st.length st (st ++ t) v = true := by
      unfold gcOk
      rw [h, List.take_left' rfl, storebeq_refl]; rfl
    rw [if_pos k, List.take_left' rfl]
theorem gc_db {t : Store} {p : Bool} : gc st (.bl p) (st ++ t) = .ok (.bl p) st := gc_drop (by rw [closed] <;> intros <;> contradiction)
theorem gc_di {t : Store} : gc st (.int a) (st ++ t) = .ok (.int a) st := gc_drop (by rw [closed] <;> intros <;> contradiction)
theorem gc_dn {t : Store} : gc st .non (st ++ t) = .ok .non st := gc_drop (by rw [closed] <;> intros <;> contradiction)
theorem gc_ds {t : Store} {s : Str} : gc st (.str s) (st ++ t) = .ok (.str s) st := gc_drop (by rw [closed] <;> intros <;> contradiction)
theorem gcX_drop {t : Store} (h : closeds st.length us = true) : gcX st c ks us (st ++ t) = .exc c ks us st := by
  unfold gcX
  by_cases e : (st ++ t).length = st.length
  · rw [if_pos e]
    have : t = [] := by
      rw [List.length_append] at e
      exact List.eq_nil_of_length_eq_zero (by omega)
    subst this; rw [List.append_nil]
  · rw [if_neg e]
    have k : gcOk st.length st (st ++ t) (.tup us) = true := by
      unfold gcOk
      rw [closed, h, List.take_left' rfl, storebeq_refl]; rfl
    rw [if_pos k, List.take_left' rfl]
theorem gc_keep {t : Store} (h : closed st.length v = false) : gc st v (st ++ t) = .ok v (st ++ t) := by
  unfold gc
  by_cases e : (st ++ t).length = st.length
  · rw [if_pos e]
  · rw [if_neg e]
    have k : gcOk st.length st (st ++ t) v = false := by
      unfold gcOk; rw [h]; rfl
    rw [k]; rfl
end
end Sg

set_option Elab.async false
set_option linter.all false
set_option maxRecDepth 100000
set_option maxHeartbeats 4000000
/-! Tables of the program and the law, compiled; written by a program of mine. -/
namespace Lk00
open Ev Sg
def b_is_whole : List CS := [.ife (.or (.isin (.var 0) [.bool]) (.nt (.isin (.var 0) [.int]))) [.ret (.cst (.bl false))] [], .ife (.and (.cmp .isnot (.var 1) (.cst .non)) (.cmp .lt (.var 0) (.var 1))) [.ret (.cst (.bl false))] [], .ret (.or (.cmp .is (.var 2) (.cst .non)) (.cmp .le (.var 0) (.var 2)))]
def f_is_whole : CFun := ⟨3, 3, b_is_whole⟩
def b_is_sequence : List CS := [.ret (.isin (.var 0) [.list, .tuple])]
def f_is_sequence : CFun := ⟨1, 1, b_is_sequence⟩
def l_common_divisor_1 : List CS := [.par [2, 3] [.bin .mod (.var 3) (.var 2), .var 2]]
theorem ul_common_divisor_1 {G : Gl} {fr : Frame} {st : Store} : exSs G l_common_divisor_1 fr st = exSs G ([.par [2, 3] [.bin .mod (.var 3) (.var 2), .var 2]]) fr st := rfl
def w_common_divisor_1 : CE := .cmp .ne (.var 2) (.cst (.int 0))
theorem uw_common_divisor_1 {G : Gl} {fr : Frame} {st : Store} : evE G w_common_divisor_1 fr st = evE G (.cmp .ne (.var 2) (.cst (.int 0))) fr st := rfl
def b_common_divisor : List CS := [.set 2 (.blt .abs [.var 0]), .set 3 (.blt .abs [.var 1]), .whl w_common_divisor_1 l_common_divisor_1, .ret (.var 3)]
def f_common_divisor : CFun := ⟨2, 4, b_common_divisor⟩
def b_is_ratio : List CS := [.ife (.or (.nt (.isin (.var 0) [.tuple])) (.cmp .ne (.blt .len [.var 0]) (.cst (.int 2)))) [.ret (.cst (.bl false))] [], .ife (.or (.nt (.callB 0 [.ix (.var 0) (.cst (.int 0))] [0, 1, 2] [.non, .non])) (.nt (.callB 0 [.ix (.var 0) (.cst (.int 1)), .cst (.int 1)] [0, 1, 3] [.non, .non]))) [.ret (.cst (.bl false))] [], .ret (.cmp .eq (.call 2 [.ix (.var 0) (.cst (.int 0)), .ix (.var 0) (.cst (.int 1))]) (.cst (.int 1)))]
def f_is_ratio : CFun := ⟨1, 1, b_is_ratio⟩
def b_lowest_terms : List CS := [.ife (.cmp .eq (.var 1) (.cst (.int 1))) [.ret (.tup [.var 0, .cst (.int 1)])] [], .set 2 (.call 2 [.var 0, .var 1]), .ife (.cmp .lt (.var 1) (.cst (.int 0))) [.set 2 (.neg (.var 2))] [], .ret (.tup [.bin .fdiv (.var 0) (.var 2), .bin .fdiv (.var 1) (.var 2)])]
def f_lowest_terms : CFun := ⟨2, 3, b_lowest_terms⟩
def b_make_ratio : List CS := [.ife (.nt (.callB 0 [.var 0] [0, 1, 2] [.non, .non])) [.raise 1 [.cst (.str "top")]] [], .ife (.or (.nt (.callB 0 [.var 1] [0, 1, 2] [.non, .non])) (.cmp .eq (.var 1) (.cst (.int 0)))) [.raise 1 [.cst (.str "bottom")]] [], .ret (.call 4 [.var 0, .var 1])]
def f_make_ratio : CFun := ⟨2, 2, b_make_ratio⟩
def b_ratio_plus : List CS := [.ife (.cmp .eq (.ix (.var 0) (.cst (.int 1))) (.ix (.var 1) (.cst (.int 1)))) [.ret (.call 4 [.bin .add (.ix (.var 0) (.cst (.int 0))) (.ix (.var 1) (.cst (.int 0))), .ix (.var 0) (.cst (.int 1))])] [], .ret (.call 4 [.bin .add (.bin .mul (.ix (.var 0) (.cst (.int 0))) (.ix (.var 1) (.cst (.int 1)))) (.bin .mul (.ix (.var 1) (.cst (.int 0))) (.ix (.var 0) (.cst (.int 1)))), .bin .mul (.ix (.var 0) (.cst (.int 1))) (.ix (.var 1) (.cst (.int 1)))])]
def f_ratio_plus : CFun := ⟨2, 2, b_ratio_plus⟩
def b_ratio_minus : List CS := [.ret (.call 6 [.var 0, .tup [.neg (.ix (.var 1) (.cst (.int 0))), .ix (.var 1) (.cst (.int 1))]])]
def f_ratio_minus : CFun := ⟨2, 2, b_ratio_minus⟩
def b_ratio_times : List CS := [.ret (.call 4 [.bin .mul (.ix (.var 0) (.cst (.int 0))) (.ix (.var 1) (.cst (.int 0))), .bin .mul (.ix (.var 0) (.cst (.int 1))) (.ix (.var 1) (.cst (.int 1)))])]
def f_ratio_times : CFun := ⟨2, 2, b_ratio_times⟩
def b_ratio_over : List CS := [.ife (.cmp .eq (.ix (.var 1) (.cst (.int 0))) (.cst (.int 0))) [.raise 2 []] [], .ret (.call 4 [.bin .mul (.ix (.var 0) (.cst (.int 0))) (.ix (.var 1) (.cst (.int 1))), .bin .mul (.ix (.var 0) (.cst (.int 1))) (.ix (.var 1) (.cst (.int 0)))])]
def f_ratio_over : CFun := ⟨2, 2, b_ratio_over⟩
def b_ratio_compare : List CS := [.set 2 (.bin .sub (.bin .mul (.ix (.var 0) (.cst (.int 0))) (.ix (.var 1) (.cst (.int 1)))) (.bin .mul (.ix (.var 1) (.cst (.int 0))) (.ix (.var 0) (.cst (.int 1))))), .ife (.cmp .lt (.var 2) (.cst (.int 0))) [.ret (.neg (.cst (.int 1)))] [], .ret (.ite (.cmp .gt (.var 2) (.cst (.int 0))) (.cst (.int 1)) (.cst (.int 0)))]
def f_ratio_compare : CFun := ⟨2, 3, b_ratio_compare⟩
def l_rest_undone_1 : List CS := [.set 2 (.bin .mod (.bin .mul (.var 2) (.var 0)) (.var 1))]
theorem ul_rest_undone_1 {G : Gl} {fr : Frame} {st : Store} : exSs G l_rest_undone_1 fr st = exSs G ([.set 2 (.bin .mod (.bin .mul (.var 2) (.var 0)) (.var 1))]) fr st := rfl
def b_rest_undone : List CS := [.set 2 (.cst (.int 1)), .for_ (.nm 3) (.rng [.bin .sub (.var 1) (.cst (.int 2))]) l_rest_undone_1, .ret (.var 2)]
def f_rest_undone : CFun := ⟨2, 4, b_rest_undone⟩
def b_Figures___init__ : List CS := [.ife (.or (.nt (.callB 0 [.var 1] [0, 1, 2] [.non, .non])) (.cmp .notin (.var 1) (.cst (.tup [.int 0, .int 2, .int 3, .int 5, .int 7, .int 11, .int 13])))) [.raise 3 [.var 1]] [], .setAttr (.var 0) 11 (.var 1), .setAttr (.var 0) 12 (.ite (.cmp .eq (.var 1) (.cst (.int 0))) (.tup [.cst (.int 0), .cst (.int 1)]) (.cst (.int 0))), .setAttr (.var 0) 13 (.ite (.cmp .eq (.var 1) (.cst (.int 0))) (.tup [.cst (.int 1), .cst (.int 1)]) (.cst (.int 1)))]
def f_Figures___init__ : CFun := ⟨2, 2, b_Figures___init__⟩
def b_Figures___eq__ : List CS := [.ret (.and (.isin (.var 1) [.own 5]) (.cmp .eq (.attr 11 (.var 0)) (.attr 11 (.var 1))))]
def f_Figures___eq__ : CFun := ⟨2, 2, b_Figures___eq__⟩
def b_Figures_plus : List CS := [.ife (.cmp .eq (.attr 11 (.var 0)) (.cst (.int 0))) [.ret (.call 6 [.var 1, .var 2])] [], .ret (.bin .mod (.bin .add (.var 1) (.var 2)) (.attr 11 (.var 0)))]
def f_Figures_plus : CFun := ⟨3, 3, b_Figures_plus⟩
def b_Figures_minus : List CS := [.ife (.cmp .eq (.attr 11 (.var 0)) (.cst (.int 0))) [.ret (.call 7 [.var 1, .var 2])] [], .ret (.bin .mod (.bin .sub (.var 1) (.var 2)) (.attr 11 (.var 0)))]
def f_Figures_minus : CFun := ⟨3, 3, b_Figures_minus⟩
def b_Figures_times : List CS := [.ife (.cmp .eq (.attr 11 (.var 0)) (.cst (.int 0))) [.ret (.call 8 [.var 1, .var 2])] [], .ret (.bin .mod (.bin .mul (.var 1) (.var 2)) (.attr 11 (.var 0)))]
def f_Figures_times : CFun := ⟨3, 3, b_Figures_times⟩
def b_Figures_over : List CS := [.ife (.cmp .eq (.attr 11 (.var 0)) (.cst (.int 0))) [.ret (.call 9 [.var 1, .var 2])] [], .ife (.cmp .eq (.var 2) (.cst (.int 0))) [.raise 2 []] [], .ret (.bin .mod (.bin .mul (.var 1) (.call 11 [.var 2, .attr 11 (.var 0)])) (.attr 11 (.var 0)))]
def f_Figures_over : CFun := ⟨3, 3, b_Figures_over⟩
def b_Figures_negative : List CS := [.ife (.cmp .eq (.attr 11 (.var 0)) (.cst (.int 0))) [.ret (.tup [.neg (.ix (.var 1) (.cst (.int 0))), .ix (.var 1) (.cst (.int 1))])] [], .ret (.bin .mod (.neg (.var 1)) (.attr 11 (.var 0)))]
def f_Figures_negative : CFun := ⟨2, 2, b_Figures_negative⟩
def b_Figures_compare : List CS := [.ife (.cmp .eq (.attr 11 (.var 0)) (.cst (.int 0))) [.ret (.call 10 [.var 1, .var 2])] [], .ife (.cmp .lt (.var 1) (.var 2)) [.ret (.neg (.cst (.int 1)))] [], .ret (.ite (.cmp .gt (.var 1) (.var 2)) (.cst (.int 1)) (.cst (.int 0)))]
def f_Figures_compare : CFun := ⟨3, 3, b_Figures_compare⟩
def b_Figures_whole_number : List CS := [.ife (.cmp .eq (.attr 11 (.var 0)) (.cst (.int 0))) [.ret (.tup [.var 1, .cst (.int 1)])] [], .ret (.bin .mod (.var 1) (.attr 11 (.var 0)))]
def f_Figures_whole_number : CFun := ⟨2, 2, b_Figures_whole_number⟩
def b_Figures_number_of : List CS := [.ife (.cmp .eq (.attr 11 (.var 0)) (.cst (.int 0))) [.ret (.var 1)] [], .ife (.cmp .eq (.bin .mod (.ix (.var 1) (.cst (.int 1))) (.attr 11 (.var 0))) (.cst (.int 0))) [.raise 4 []] [], .ret (.meth 3 (.var 0) [.bin .mod (.ix (.var 1) (.cst (.int 0))) (.attr 11 (.var 0)), .bin .mod (.ix (.var 1) (.cst (.int 1))) (.attr 11 (.var 0))])]
def f_Figures_number_of : CFun := ⟨2, 2, b_Figures_number_of⟩
def b_Figures_is_number : List CS := [.ife (.cmp .eq (.attr 11 (.var 0)) (.cst (.int 0))) [.ret (.call 3 [.var 1])] [], .ret (.call 0 [.var 1, .cst (.int 0), .bin .sub (.attr 11 (.var 0)) (.cst (.int 1))])]
def f_Figures_is_number : CFun := ⟨2, 2, b_Figures_is_number⟩
def b_Figures_all_numbers : List CS := [.ret (.bltI .tuple (.rng [.attr 11 (.var 0)]))]
def f_Figures_all_numbers : CFun := ⟨1, 1, b_Figures_all_numbers⟩
def l__law_hand_1 : List CS := [.set 1 (.bin .mod (.blt .int [.bin .add (.bin .mul (.var 1) (.cst (.int 1999))) (.blt .int [.var 3])]) (.cst (.int 2147483563))), .expr (.lm .append (.var 2) [.blt .abs [.blt .int [.var 3]]])]
theorem ul__law_hand_1 {G : Gl} {fr : Frame} {st : Store} : exSs G l__law_hand_1 fr st = exSs G ([.set 1 (.bin .mod (.blt .int [.bin .add (.bin .mul (.var 1) (.cst (.int 1999))) (.blt .int [.var 3])]) (.cst (.int 2147483563))), .expr (.lm .append (.var 2) [.blt .abs [.blt .int [.var 3]]])]) fr st := rfl
def b__law_hand : List CS := [.set 1 (.bin .add (.blt .len [.var 0]) (.cst (.int 57))), .set 2 (.lst []), .for_ (.nm 3) (.seq (.var 0)) l__law_hand_1, .ret (.lst [.var 2, .cst (.int 0), .cst (.int 0), .var 1])]
def f__law_hand : CFun := ⟨1, 4, b__law_hand⟩
def b__law_mixed : List CS := [.set 2 (.bin .mod (.blt .int [.bin .add (.bin .add (.bin .mul (.var 0) (.cst (.int 39373))) (.bin .mul (.var 1) (.cst (.int 6151)))) (.cst (.int 50021))]) (.cst (.int 2147483399))), .set 3 (.bin .mod (.blt .int [.bin .add (.bin .add (.bin .mul (.var 2) (.var 2)) (.bin .mul (.var 1) (.cst (.int 81071)))) (.bin .fdiv (.var 2) (.cst (.int 137)))]) (.cst (.int 2147483629))), .ret (.bin .fdiv (.blt .int [.bin .mod (.blt .int [.bin .add (.bin .mul (.var 3) (.cst (.int 62089))) (.bin .fdiv (.var 2) (.cst (.int 11)))]) (.cst (.int 2147483587))]) (.cst (.int 64)))]
def f__law_mixed : CFun := ⟨2, 4, b__law_mixed⟩
def b__law_take : List CS := [.ife (.and (.cmp .eq (.ix (.var 0) (.cst (.int 2))) (.cst (.int 0))) (.cmp .lt (.ix (.var 0) (.cst (.int 1))) (.blt .len [.ix (.var 0) (.cst (.int 0))]))) [.set 2 (.ix (.ix (.var 0) (.cst (.int 0))) (.ix (.var 0) (.cst (.int 1)))), .setSub (.var 0) (.cst (.int 1)) (.bin .add (.ix (.var 0) (.cst (.int 1))) (.cst (.int 1))), .ife (.cmp .lt (.var 2) (.bin .pow (.cst (.int 10)) (.cst (.int 18)))) [.ret (.bin .mod (.blt .int [.call 25 [.bin .mod (.blt .int [.var 2]) (.cst (.int 2147483399)), .ix (.var 0) (.cst (.int 1))]]) (.var 1))] [], .setSub (.var 0) (.cst (.int 2)) (.var 2)] [], .ife (.cmp .gt (.ix (.var 0) (.cst (.int 2))) (.cst (.int 0))) [.set 3 (.ix (.var 0) (.cst (.int 2))), .setSub (.var 0) (.cst (.int 2)) (.bin .fdiv (.blt .int [.var 3]) (.var 1)), .ret (.bin .mod (.blt .int [.var 3]) (.var 1))] [], .setSub (.var 0) (.cst (.int 3)) (.bin .mod (.blt .int [.bin .add (.ix (.var 0) (.cst (.int 3))) (.cst (.int 1))]) (.cst (.int 2147483549))), .ret (.bin .mod (.blt .int [.call 25 [.ix (.var 0) (.cst (.int 3)), .ix (.var 0) (.cst (.int 1))]]) (.var 1))]
def f__law_take : CFun := ⟨2, 4, b__law_take⟩
def l__law_gcd_1 : List CS := [.ife (.cmp .eq (.var 3) (.cst (.int 0))) [.ret (.var 2)] [], .set 5 (.bin .mod (.blt .int [.var 2]) (.var 3)), .set 2 (.var 3), .set 3 (.var 5)]
theorem ul__law_gcd_1 {G : Gl} {fr : Frame} {st : Store} : exSs G l__law_gcd_1 fr st = exSs G ([.ife (.cmp .eq (.var 3) (.cst (.int 0))) [.ret (.var 2)] [], .set 5 (.bin .mod (.blt .int [.var 2]) (.var 3)), .set 2 (.var 3), .set 3 (.var 5)]) fr st := rfl
def b__law_gcd : List CS := [.set 2 (.blt .abs [.var 0]), .set 3 (.blt .abs [.var 1]), .for_ (.nm 4) (.rng [.cst (.int 60000)]) l__law_gcd_1, .ret (.cst (.int 1))]
def f__law_gcd : CFun := ⟨2, 6, b__law_gcd⟩
def b__law_ratio : List CS := [.set 2 (.call 27 [.var 0, .var 1]), .ife (.cmp .lt (.var 1) (.cst (.int 0))) [.set 2 (.neg (.var 2))] [], .ret (.tup [.bin .fdiv (.var 0) (.var 2), .bin .fdiv (.var 1) (.var 2)])]
def f__law_ratio : CFun := ⟨2, 3, b__law_ratio⟩
def b__law_top : List CS := [.ife (.cmp .eq (.call 26 [.var 0, .cst (.int 4)]) (.cst (.int 0))) [.ret (.bin .sub (.call 26 [.var 0, .bin .pow (.cst (.int 10)) (.cst (.int 9))]) (.bin .mul (.cst (.int 5)) (.bin .pow (.cst (.int 10)) (.cst (.int 8)))))] [], .ret (.bin .sub (.call 26 [.var 0, .cst (.int 81)]) (.cst (.int 40)))]
def f__law_top : CFun := ⟨1, 1, b__law_top⟩
def b__law_fraction : List CS := [.ret (.call 28 [.call 29 [.var 0], .bin .add (.cst (.int 1)) (.call 26 [.var 0, .cst (.int 12)])])]
def f__law_fraction : CFun := ⟨1, 1, b__law_fraction⟩
def b__law_drawn : List CS := [.ife (.cmp .eq (.var 1) (.cst (.int 0))) [.ret (.call 30 [.var 0])] [], .ret (.call 26 [.var 0, .var 1])]
def f__law_drawn : CFun := ⟨2, 2, b__law_drawn⟩
def b__law_same : List CS := [.ife (.isin (.var 1) [.tuple]) [.ret (.and (.isin (.var 0) [.tuple]) (.and (.cmp .eq (.blt .len [.var 0]) (.cst (.int 2))) (.and (.call 33 [.ix (.var 0) (.cst (.int 0))]) (.and (.call 33 [.ix (.var 0) (.cst (.int 1))]) (.cmp .eq (.var 0) (.var 1))))))] [], .ret (.and (.call 33 [.var 0]) (.cmp .eq (.var 0) (.var 1)))]
def f__law_same : CFun := ⟨2, 2, b__law_same⟩
def b__law_whole : List CS := [.ret (.and (.isin (.var 0) [.int]) (.nt (.isin (.var 0) [.bool])))]
def f__law_whole : CFun := ⟨1, 1, b__law_whole⟩
def b__law_sign : List CS := [.ife (.cmp .lt (.var 0) (.cst (.int 0))) [.ret (.neg (.cst (.int 1)))] [], .ret (.blt .int [.cmp .gt (.var 0) (.cst (.int 0))])]
def f__law_sign : CFun := ⟨1, 1, b__law_sign⟩
def l__law_ratios_1 : List CS := [.ife (.or (.nt (.call 32 [.var 7, .var 8])) (.nt (.call 3 [.var 7]))) [.ret (.cst (.bl false))] []]
theorem ul__law_ratios_1 {G : Gl} {fr : Frame} {st : Store} : exSs G l__law_ratios_1 fr st = exSs G ([.ife (.or (.nt (.call 32 [.var 7, .var 8])) (.nt (.call 3 [.var 7]))) [.ret (.cst (.bl false))] []]) fr st := rfl
def b__law_ratios : List CS := [.set 2 (.lst [.tup [.call 6 [.var 0, .var 1], .call 28 [.bin .add (.bin .mul (.ix (.var 0) (.cst (.int 0))) (.ix (.var 1) (.cst (.int 1)))) (.bin .mul (.ix (.var 1) (.cst (.int 0))) (.ix (.var 0) (.cst (.int 1)))), .bin .mul (.ix (.var 0) (.cst (.int 1))) (.ix (.var 1) (.cst (.int 1)))]], .tup [.call 7 [.var 0, .var 1], .call 28 [.bin .sub (.bin .mul (.ix (.var 0) (.cst (.int 0))) (.ix (.var 1) (.cst (.int 1)))) (.bin .mul (.ix (.var 1) (.cst (.int 0))) (.ix (.var 0) (.cst (.int 1)))), .bin .mul (.ix (.var 0) (.cst (.int 1))) (.ix (.var 1) (.cst (.int 1)))]], .tup [.call 8 [.var 0, .var 1], .call 28 [.bin .mul (.ix (.var 0) (.cst (.int 0))) (.ix (.var 1) (.cst (.int 0))), .bin .mul (.ix (.var 0) (.cst (.int 1))) (.ix (.var 1) (.cst (.int 1)))]]]), .for_ (.tp [7, 8]) (.seq (.var 2)) l__law_ratios_1, .set 3 (.call 10 [.var 0, .var 1]), .ife (.or (.nt (.call 33 [.var 3])) (.cmp .ne (.var 3) (.call 34 [.bin .sub (.bin .mul (.ix (.var 0) (.cst (.int 0))) (.ix (.var 1) (.cst (.int 1)))) (.bin .mul (.ix (.var 1) (.cst (.int 0))) (.ix (.var 0) (.cst (.int 1))))]))) [.ret (.cst (.bl false))] [], .set 4 (.cst .non), .set 5 (.cst (.bl false)), .try_ [.set 4 (.call 9 [.var 0, .var 1])] [.hnd 2 (some 6) [.set 5 (.nt (.xis [.own 4]))]], .ife (.cmp .eq (.ix (.var 1) (.cst (.int 0))) (.cst (.int 0))) [.ret (.var 5)] [], .ret (.call 32 [.var 4, .call 28 [.bin .mul (.ix (.var 0) (.cst (.int 0))) (.ix (.var 1) (.cst (.int 1))), .bin .mul (.ix (.var 0) (.cst (.int 1))) (.ix (.var 1) (.cst (.int 0)))]])]
def f__law_ratios : CFun := ⟨2, 9, b__law_ratios⟩
def b__law_made : List CS := [.set 2 (.cst .non), .set 3 (.cst .non), .try_ [.set 2 (.call 5 [.var 0, .var 1])] [.hnd 1 (some 4) [.set 3 (.xat 10)]], .ife (.nt (.call 33 [.var 0])) [.ret (.cmp .eq (.var 3) (.cst (.str "top")))] [], .ife (.or (.nt (.call 33 [.var 1])) (.cmp .eq (.var 1) (.cst (.int 0)))) [.ret (.cmp .eq (.var 3) (.cst (.str "bottom")))] [], .ret (.and (.cmp .is (.var 3) (.cst .non)) (.call 32 [.var 2, .call 28 [.var 0, .var 1]]))]
def f__law_made : CFun := ⟨2, 5, b__law_made⟩
def l__law_rests_1 : List CS := [.ife (.nt (.call 32 [.var 8, .var 9])) [.ret (.cst (.bl false))] []]
theorem ul__law_rests_1 {G : Gl} {fr : Frame} {st : Store} : exSs G l__law_rests_1 fr st = exSs G ([.ife (.nt (.call 32 [.var 8, .var 9])) [.ret (.cst (.bl false))] []]) fr st := rfl
def b__law_rests : List CS := [.set 4 (.lst [.tup [.meth 0 (.var 0) [.var 2, .var 3], .bin .mod (.blt .int [.bin .add (.var 2) (.var 3)]) (.var 1)], .tup [.meth 1 (.var 0) [.var 2, .var 3], .bin .mod (.blt .int [.bin .sub (.var 2) (.var 3)]) (.var 1)], .tup [.meth 2 (.var 0) [.var 2, .var 3], .bin .mod (.blt .int [.bin .mul (.var 2) (.var 3)]) (.var 1)], .tup [.meth 4 (.var 0) [.var 2], .bin .mod (.blt .int [.bin .sub (.var 1) (.var 2)]) (.var 1)], .tup [.meth 5 (.var 0) [.var 2, .var 3], .call 34 [.bin .sub (.var 2) (.var 3)]]]), .for_ (.tp [8, 9]) (.seq (.var 4)) l__law_rests_1, .set 5 (.cst .non), .set 6 (.cst (.bl false)), .try_ [.set 5 (.meth 3 (.var 0) [.var 2, .var 3])] [.hnd 0 (some 7) [.set 6 (.xis [.own 2])]], .ife (.cmp .eq (.var 3) (.cst (.int 0))) [.ret (.var 6)] [], .ret (.and (.call 33 [.var 5]) (.and (.chain .le .lt (.cst (.int 0)) (.var 5) (.var 1)) (.cmp .eq (.bin .mod (.blt .int [.bin .mul (.var 5) (.var 3)]) (.var 1)) (.var 2))))]
def f__law_rests : CFun := ⟨4, 10, b__law_rests⟩
def b__law_fractions : List CS := [.ife (.or (.cmp .ne (.meth 0 (.var 0) [.var 1, .var 2]) (.call 6 [.var 1, .var 2])) (.cmp .ne (.meth 1 (.var 0) [.var 1, .var 2]) (.call 7 [.var 1, .var 2]))) [.ret (.cst (.bl false))] [], .ife (.or (.cmp .ne (.meth 2 (.var 0) [.var 1, .var 2]) (.call 8 [.var 1, .var 2])) (.cmp .ne (.meth 5 (.var 0) [.var 1, .var 2]) (.call 10 [.var 1, .var 2]))) [.ret (.cst (.bl false))] [], .ife (.nt (.call 32 [.meth 4 (.var 0) [.var 1], .tup [.neg (.ix (.var 1) (.cst (.int 0))), .ix (.var 1) (.cst (.int 1))]])) [.ret (.cst (.bl false))] [], .ife (.cmp .eq (.ix (.var 2) (.cst (.int 0))) (.cst (.int 0))) [.try_ [.expr (.meth 3 (.var 0) [.var 1, .var 2])] [.hnd 2 none [.ret (.cst (.bl true))]], .ret (.cst (.bl false))] [], .ret (.cmp .eq (.meth 3 (.var 0) [.var 1, .var 2]) (.call 9 [.var 1, .var 2]))]
def f__law_fractions : CFun := ⟨3, 3, b__law_fractions⟩
def k__law_read_1 : CE := .var 8
theorem uk__law_read_1 {G : Gl} {fr : Frame} {st : Store} : evE G k__law_read_1 fr st = evE G (.var 8) fr st := rfl
def b__law_read : List CS := [.set 4 (.meth 6 (.var 0) [.var 3]), .ife (.cmp .eq (.var 1) (.cst (.int 0))) [.ret (.and (.call 32 [.var 4, .tup [.var 3, .cst (.int 1)]]) (.and (.call 32 [.meth 7 (.var 0) [.var 2], .var 2]) (.cmp .eq (.meth 9 (.var 0) []) (.tup []))))] [], .ife (.or (.nt (.call 32 [.var 4, .bin .mod (.blt .int [.var 3]) (.var 1)])) (.cmp .ne (.meth 9 (.var 0) []) (.blt .tuple [.comp [8] (.nm 8) (.rng [.var 1]) [] k__law_read_1]))) [.ret (.cst (.bl false))] [], .set 5 (.cst .non), .set 6 (.cst (.bl false)), .try_ [.set 5 (.meth 7 (.var 0) [.var 2])] [.hnd 4 (some 7) [.set 6 (.and (.xis [.verr]) (.nt (.xis [.own 2])))]], .ife (.cmp .eq (.bin .mod (.blt .int [.ix (.var 2) (.cst (.int 1))]) (.var 1)) (.cst (.int 0))) [.ret (.var 6)] [], .ret (.and (.call 33 [.var 5]) (.and (.chain .le .lt (.cst (.int 0)) (.var 5) (.var 1)) (.cmp .eq (.bin .mod (.blt .int [.bin .sub (.bin .mul (.var 5) (.ix (.var 2) (.cst (.int 1)))) (.ix (.var 2) (.cst (.int 0)))]) (.var 1)) (.cst (.int 0)))))]
def f__law_read : CFun := ⟨4, 9, b__law_read⟩
def l__law_numbers_1 : List CS := [.ife (.cmp .isnot (.meth 8 (.var 0) [.var 5]) (.cst (.bl false))) [.ret (.cst (.bl false))] []]
theorem ul__law_numbers_1 {G : Gl} {fr : Frame} {st : Store} : exSs G l__law_numbers_1 fr st = exSs G ([.ife (.cmp .isnot (.meth 8 (.var 0) [.var 5]) (.cst (.bl false))) [.ret (.cst (.bl false))] []]) fr st := rfl
def b__law_numbers : List CS := [.set 4 (.lst [.cst .non, .cst (.str "1"), .cst (.bl true), .cst (.bl false), .lst [.cst (.int 1), .cst (.int 2)], .tup [.cst (.int 2), .cst (.int 4)], .tup [.cst (.int 1), .cst (.int 0)], .tup [.cst (.int 3), .neg (.cst (.int 1))], .tup [.cst (.bl true), .cst (.int 1)], .tup [.cst (.int 1), .cst (.bl true)], .neg (.cst (.int 1)), .tup [.cst (.int 1), .cst (.int 2), .cst (.int 1)], .lst [.cst (.int 0), .cst (.int 1)]]), .for_ (.nm 5) (.seq (.var 4)) l__law_numbers_1, .ife (.or (.cmp .isnot (.meth 8 (.var 0) [.var 2]) (.cst (.bl true))) (.cmp .ne (.meth 8 (.var 0) [.var 3]) (.and (.cmp .gt (.var 1) (.cst (.int 0))) (.chain .le .lt (.cst (.int 0)) (.var 3) (.var 1))))) [.ret (.cst (.bl false))] [], .ret (.and (.meth 8 (.var 0) [.attr 12 (.var 0)]) (.and (.meth 8 (.var 0) [.attr 13 (.var 0)]) (.cmp .eq (.meth 8 (.var 0) [.tup [.cst (.int 3), .cst (.int 2)]]) (.cmp .eq (.var 1) (.cst (.int 0))))))]
def f__law_numbers : CFun := ⟨4, 6, b__law_numbers⟩
def b__law_kinds : List CS := [.ife (.or (.cmp .ne (.call 0 [.var 2, .var 0, .var 1]) (.chain .le .le (.var 0) (.var 2) (.var 1))) (.cmp .ne (.call 0 [.var 2, .cst .non, .var 1]) (.cmp .le (.var 2) (.var 1)))) [.ret (.cst (.bl false))] [], .ife (.or (.cmp .ne (.callB 0 [.var 2, .var 1] [0, 2, 1] [.non, .non]) (.cmp .le (.var 2) (.var 1))) (.or (.cmp .ne (.callB 0 [.var 2, .var 0] [0, 1, 3] [.non, .non]) (.cmp .le (.var 0) (.var 2))) (.cmp .isnot (.callB 0 [.var 2] [0, 1, 2] [.non, .non]) (.cst (.bl true))))) [.ret (.cst (.bl false))] [], .ife (.or (.callB 0 [.cst (.bl true)] [0, 1, 2] [.non, .non]) (.or (.callB 0 [.cst (.str "3")] [0, 1, 2] [.non, .non]) (.or (.callB 0 [.cst .non] [0, 1, 2] [.non, .non]) (.or (.callB 0 [.tup [.var 2, .cst (.int 1)]] [0, 1, 2] [.non, .non]) (.call 0 [.cst (.bl false), .cst (.int 0), .cst (.int 1)]))))) [.ret (.cst (.bl false))] [], .ife (.or (.nt (.call 1 [.lst []])) (.or (.nt (.call 1 [.tup [.var 2]])) (.or (.call 1 [.cst (.str "ab")]) (.or (.call 1 [.var 2]) (.call 1 [.cst .non]))))) [.ret (.cst (.bl false))] [], .set 3 (.call 2 [.var 0, .var 2]), .ife (.and (.cmp .eq (.var 0) (.cst (.int 0))) (.cmp .eq (.var 2) (.cst (.int 0)))) [.ret (.cmp .eq (.var 3) (.cst (.int 0)))] [], .ret (.and (.call 33 [.var 3]) (.and (.cmp .eq (.var 3) (.call 27 [.var 0, .var 2])) (.and (.cmp .is (.call 3 [.lst [.var 2, .cst (.int 1)]]) (.cst (.bl false))) (.call 3 [.tup [.var 2, .cst (.int 1)]]))))]
def f__law_kinds : CFun := ⟨3, 4, b__law_kinds⟩
def b__law_refused : List CS := [.try_ [.expr (.make 5 [.var 0])] [.hnd 3 (some 1) [.ret (.and (.cmpD .eq (.xat 11) (.var 0)) (.and (.xis [.own 0]) (.nt (.xis [.own 4]))))]], .ret (.cst (.bl false))]
def f__law_refused : CFun := ⟨1, 2, b__law_refused⟩
def k_law_1 : CE := .call 31 [.var 1, .var 2]
theorem uk_law_1 {G : Gl} {fr : Frame} {st : Store} : evE G k_law_1 fr st = evE G (.call 31 [.var 1, .var 2]) fr st := rfl
def l_law_2 : List CS := [.ife (.and (.cmp .eq (.var 2) (.cst (.int 0))) (.nt (.and (.call 35 [.var 5, .var 12]) (.call 38 [.var 3, .var 5, .var 12])))) [.ret (.cst (.bl false))] [], .ife (.and (.cmp .gt (.var 2) (.cst (.int 0))) (.nt (.call 37 [.var 3, .var 2, .var 5, .var 12]))) [.ret (.cst (.bl false))] []]
theorem ul_law_2 {G : Gl} {fr : Frame} {st : Store} : exSs G l_law_2 fr st = exSs G ([.ife (.and (.cmp .eq (.var 2) (.cst (.int 0))) (.nt (.and (.call 35 [.var 5, .var 12]) (.call 38 [.var 3, .var 5, .var 12])))) [.ret (.cst (.bl false))] [], .ife (.and (.cmp .gt (.var 2) (.cst (.int 0))) (.nt (.call 37 [.var 3, .var 2, .var 5, .var 12]))) [.ret (.cst (.bl false))] []]) fr st := rfl
def l_law_1 : List CS := [.for_ (.nm 12) (.seq (.var 4)) l_law_2]
theorem ul_law_1 {G : Gl} {fr : Frame} {st : Store} : exSs G l_law_1 fr st = exSs G ([.for_ (.nm 12) (.seq (.var 4)) l_law_2]) fr st := rfl
def s_law_0 : CS := .set 1 (.call 24 [.var 0])
theorem us_law_0 {G : Gl} {fr : Frame} {st : Store} : exS G s_law_0 fr st = exS G (.set 1 (.call 24 [.var 0])) fr st := rfl
def s_law_1 : CS := .set 2 (.ix (.tup [.cst (.int 0), .cst (.int 5), .cst (.int 3), .cst (.int 7), .cst (.int 2), .cst (.int 13), .cst (.int 0), .cst (.int 11), .cst (.int 5)]) (.call 26 [.var 1, .cst (.int 9)]))
theorem us_law_1 {G : Gl} {fr : Frame} {st : Store} : exS G s_law_1 fr st = exS G (.set 2 (.ix (.tup [.cst (.int 0), .cst (.int 5), .cst (.int 3), .cst (.int 7), .cst (.int 2), .cst (.int 13), .cst (.int 0), .cst (.int 11), .cst (.int 5)]) (.call 26 [.var 1, .cst (.int 9)]))) fr st := rfl
def s_law_2 : CS := .set 3 (.make 5 [.var 2])
theorem us_law_2 {G : Gl} {fr : Frame} {st : Store} : exS G s_law_2 fr st = exS G (.set 3 (.make 5 [.var 2])) fr st := rfl
def s_law_3 : CS := .ife (.or (.cmp .ne (.attr 11 (.var 3)) (.var 2)) (.or (.nt (.call 32 [.attr 12 (.var 3), .ite (.cmp .eq (.var 2) (.cst (.int 0))) (.tup [.cst (.int 0), .cst (.int 1)]) (.cst (.int 0))])) (.nt (.call 32 [.attr 13 (.var 3), .ite (.cmp .eq (.var 2) (.cst (.int 0))) (.tup [.cst (.int 1), .cst (.int 1)]) (.cst (.int 1))])))) [.ret (.cst (.bl false))] []
theorem us_law_3 {G : Gl} {fr : Frame} {st : Store} : exS G s_law_3 fr st = exS G (.ife (.or (.cmp .ne (.attr 11 (.var 3)) (.var 2)) (.or (.nt (.call 32 [.attr 12 (.var 3), .ite (.cmp .eq (.var 2) (.cst (.int 0))) (.tup [.cst (.int 0), .cst (.int 1)]) (.cst (.int 0))])) (.nt (.call 32 [.attr 13 (.var 3), .ite (.cmp .eq (.var 2) (.cst (.int 0))) (.tup [.cst (.int 1), .cst (.int 1)]) (.cst (.int 1))])))) [.ret (.cst (.bl false))] []) fr st := rfl
def s_law_4 : CS := .set 4 (.bin .add (.comp [13] (.nm 13) (.rng [.bin .add (.cst (.int 2)) (.call 26 [.var 1, .cst (.int 2)])]) [] k_law_1) (.lst [.attr 12 (.var 3)]))
theorem us_law_4 {G : Gl} {fr : Frame} {st : Store} : exS G s_law_4 fr st = exS G (.set 4 (.bin .add (.comp [13] (.nm 13) (.rng [.bin .add (.cst (.int 2)) (.call 26 [.var 1, .cst (.int 2)])]) [] k_law_1) (.lst [.attr 12 (.var 3)]))) fr st := rfl
def s_law_5 : CS := .for_ (.nm 5) (.seq (.var 4)) l_law_1
theorem us_law_5 {G : Gl} {fr : Frame} {st : Store} : exS G s_law_5 fr st = exS G (.for_ (.nm 5) (.seq (.var 4)) l_law_1) fr st := rfl
def s_law_6 : CS := .set 6 (.ite (.cmp .eq (.call 26 [.var 1, .cst (.int 3)]) (.cst (.int 0))) (.bin .sub (.call 26 [.var 1, .bin .pow (.cst (.int 10)) (.cst (.int 12))]) (.bin .mul (.cst (.int 5)) (.bin .pow (.cst (.int 10)) (.cst (.int 11))))) (.bin .sub (.call 26 [.var 1, .cst (.int 199)]) (.cst (.int 99))))
theorem us_law_6 {G : Gl} {fr : Frame} {st : Store} : exS G s_law_6 fr st = exS G (.set 6 (.ite (.cmp .eq (.call 26 [.var 1, .cst (.int 3)]) (.cst (.int 0))) (.bin .sub (.call 26 [.var 1, .bin .pow (.cst (.int 10)) (.cst (.int 12))]) (.bin .mul (.cst (.int 5)) (.bin .pow (.cst (.int 10)) (.cst (.int 11))))) (.bin .sub (.call 26 [.var 1, .cst (.int 199)]) (.cst (.int 99))))) fr st := rfl
def s_law_7 : CS := .set 7 (.call 30 [.var 1])
theorem us_law_7 {G : Gl} {fr : Frame} {st : Store} : exS G s_law_7 fr st = exS G (.set 7 (.call 30 [.var 1])) fr st := rfl
def s_law_8 : CS := .set 8 (.call 30 [.var 1])
theorem us_law_8 {G : Gl} {fr : Frame} {st : Store} : exS G s_law_8 fr st = exS G (.set 8 (.call 30 [.var 1])) fr st := rfl
def s_law_9 : CS := .ife (.or (.nt (.call 35 [.var 7, .var 8])) (.or (.nt (.call 39 [.var 3, .var 2, .var 7, .var 6])) (.nt (.call 39 [.var 3, .var 2, .var 8, .neg (.var 6)])))) [.ret (.cst (.bl false))] []
theorem us_law_9 {G : Gl} {fr : Frame} {st : Store} : exS G s_law_9 fr st = exS G (.ife (.or (.nt (.call 35 [.var 7, .var 8])) (.or (.nt (.call 39 [.var 3, .var 2, .var 7, .var 6])) (.nt (.call 39 [.var 3, .var 2, .var 8, .neg (.var 6)])))) [.ret (.cst (.bl false))] []) fr st := rfl
def s_law_10 : CS := .ife (.or (.nt (.call 40 [.var 3, .var 2, .ix (.var 4) (.cst (.int 0)), .var 6])) (.nt (.call 41 [.bin .sub (.call 26 [.var 1, .cst (.int 41)]) (.cst (.int 20)), .bin .sub (.call 26 [.var 1, .cst (.int 61)]) (.cst (.int 30)), .var 6]))) [.ret (.cst (.bl false))] []
theorem us_law_10 {G : Gl} {fr : Frame} {st : Store} : exS G s_law_10 fr st = exS G (.ife (.or (.nt (.call 40 [.var 3, .var 2, .ix (.var 4) (.cst (.int 0)), .var 6])) (.nt (.call 41 [.bin .sub (.call 26 [.var 1, .cst (.int 41)]) (.cst (.int 20)), .bin .sub (.call 26 [.var 1, .cst (.int 61)]) (.cst (.int 30)), .var 6]))) [.ret (.cst (.bl false))] []) fr st := rfl
def s_law_11 : CS := .set 9 (.ix (.tup [.call 29 [.var 1], .cst (.bl true), .cst (.str "1"), .cst .non, .cst (.int 0), .var 6]) (.call 26 [.var 1, .cst (.int 6)]))
theorem us_law_11 {G : Gl} {fr : Frame} {st : Store} : exS G s_law_11 fr st = exS G (.set 9 (.ix (.tup [.call 29 [.var 1], .cst (.bl true), .cst (.str "1"), .cst .non, .cst (.int 0), .var 6]) (.call 26 [.var 1, .cst (.int 6)]))) fr st := rfl
def s_law_12 : CS := .set 10 (.ix (.tup [.call 29 [.var 1], .cst (.bl false), .cst (.int 0), .tup [.cst (.int 1), .cst (.int 1)], .neg (.cst (.int 1)), .cst (.int 12)]) (.call 26 [.var 1, .cst (.int 6)]))
theorem us_law_12 {G : Gl} {fr : Frame} {st : Store} : exS G s_law_12 fr st = exS G (.set 10 (.ix (.tup [.call 29 [.var 1], .cst (.bl false), .cst (.int 0), .tup [.cst (.int 1), .cst (.int 1)], .neg (.cst (.int 1)), .cst (.int 12)]) (.call 26 [.var 1, .cst (.int 6)]))) fr st := rfl
def s_law_13 : CS := .ife (.or (.nt (.call 36 [.var 9, .var 10])) (.or (.nt (.call 36 [.var 6, .neg (.cst (.int 7))])) (.cmp .ne (.callB 5 [.var 6] [0, 1] [.int 1]) (.tup [.var 6, .cst (.int 1)])))) [.ret (.cst (.bl false))] []
theorem us_law_13 {G : Gl} {fr : Frame} {st : Store} : exS G s_law_13 fr st = exS G (.ife (.or (.nt (.call 36 [.var 9, .var 10])) (.or (.nt (.call 36 [.var 6, .neg (.cst (.int 7))])) (.cmp .ne (.callB 5 [.var 6] [0, 1] [.int 1]) (.tup [.var 6, .cst (.int 1)])))) [.ret (.cst (.bl false))] []) fr st := rfl
def s_law_14 : CS := .set 11 (.ix (.tup [.cst (.int 1), .cst (.int 4), .cst (.int 6), .cst (.int 9), .cst (.int 10), .cst (.int 12), .cst (.int 14), .cst (.int 17), .cst (.bl true), .cst (.str "5"), .cst .non, .neg (.cst (.int 5)), .tup [.cst (.int 5), .cst (.int 1)], .cst (.int 169)]) (.call 26 [.var 1, .cst (.int 14)]))
theorem us_law_14 {G : Gl} {fr : Frame} {st : Store} : exS G s_law_14 fr st = exS G (.set 11 (.ix (.tup [.cst (.int 1), .cst (.int 4), .cst (.int 6), .cst (.int 9), .cst (.int 10), .cst (.int 12), .cst (.int 14), .cst (.int 17), .cst (.bl true), .cst (.str "5"), .cst .non, .neg (.cst (.int 5)), .tup [.cst (.int 5), .cst (.int 1)], .cst (.int 169)]) (.call 26 [.var 1, .cst (.int 14)]))) fr st := rfl
def s_law_15 : CS := .ret (.and (.call 42 [.var 11]) (.and (.cmp .eq (.make 5 [.var 2]) (.var 3)) (.nt (.cmp .eq (.make 5 [.var 2]) (.make 5 [.ite (.cmp .ne (.var 2) (.cst (.int 2))) (.cst (.int 2)) (.cst (.int 3))])))))
theorem us_law_15 {G : Gl} {fr : Frame} {st : Store} : exS G s_law_15 fr st = exS G (.ret (.and (.call 42 [.var 11]) (.and (.cmp .eq (.make 5 [.var 2]) (.var 3)) (.nt (.cmp .eq (.make 5 [.var 2]) (.make 5 [.ite (.cmp .ne (.var 2) (.cst (.int 2))) (.cst (.int 2)) (.cst (.int 3))])))))) fr st := rfl
def b_law : List CS := [s_law_0, s_law_1, s_law_2, s_law_3, s_law_4, s_law_5, s_law_6, s_law_7, s_law_8, s_law_9, s_law_10, s_law_11, s_law_12, s_law_13, s_law_14, s_law_15]
def f_law : CFun := ⟨1, 14, b_law⟩
def cfs0 : List CFun := [f_is_whole, f_is_sequence, f_common_divisor, f_is_ratio, f_lowest_terms, f_make_ratio, f_ratio_plus, f_ratio_minus, f_ratio_times, f_ratio_over, f_ratio_compare, f_rest_undone, f_Figures___init__, f_Figures___eq__, f_Figures_plus, f_Figures_minus, f_Figures_times, f_Figures_over, f_Figures_negative, f_Figures_compare]
def cfs1 : List CFun := [f_Figures_whole_number, f_Figures_number_of, f_Figures_is_number, f_Figures_all_numbers, f__law_hand, f__law_mixed, f__law_take, f__law_gcd, f__law_ratio, f__law_top, f__law_fraction, f__law_drawn, f__law_same, f__law_whole, f__law_sign, f__law_ratios, f__law_made, f__law_rests, f__law_fractions, f__law_read]
def cfs2 : List CFun := [f__law_numbers, f__law_kinds, f__law_refused, f_law]
def cfs : List CFun := cfs0 ++ cfs1 ++ cfs2
def clss : List CCls := [
  ⟨false, none, [], none, [], [0], none⟩,
  ⟨false, none, [], none, [], [1, 0], some (1, [(10, 0)])⟩,
  ⟨false, none, [], none, [], [2, 0], some (0, [])⟩,
  ⟨false, none, [], none, [], [3, 0], some (1, [(11, 0)])⟩,
  ⟨false, none, [], none, [], [4, 0], some (0, [])⟩,
  ⟨true, some 12, [(0, 14), (1, 15), (2, 16), (3, 17), (4, 18), (5, 19), (6, 20), (7, 21), (8, 22), (9, 23)], some 13, [11, 12, 13], [5], none⟩]
def T : Tab := ⟨cfs, clss⟩
theorem c_is_whole {n : Nat} {st : Store} {x0 : PV} {x1 : PV} {x2 : PV} : callN T (n + 1) 0 [x0, x1, x2] st = fin st (exSs (Gd T n none) b_is_whole [some x0, some x1, some x2] st) := rfl
theorem c_is_sequence {n : Nat} {st : Store} {x0 : PV} : callN T (n + 1) 1 [x0] st = fin st (exSs (Gd T n none) b_is_sequence [some x0] st) := rfl
theorem c_common_divisor {n : Nat} {st : Store} {x0 : PV} {x1 : PV} : callN T (n + 1) 2 [x0, x1] st = fin st (exSs (Gd T n none) b_common_divisor [some x0, some x1, none, none] st) := rfl
theorem c_is_ratio {n : Nat} {st : Store} {x0 : PV} : callN T (n + 1) 3 [x0] st = fin st (exSs (Gd T n none) b_is_ratio [some x0] st) := rfl
theorem c_lowest_terms {n : Nat} {st : Store} {x0 : PV} {x1 : PV} : callN T (n + 1) 4 [x0, x1] st = fin st (exSs (Gd T n none) b_lowest_terms [some x0, some x1, none] st) := rfl
theorem c_make_ratio {n : Nat} {st : Store} {x0 : PV} {x1 : PV} : callN T (n + 1) 5 [x0, x1] st = fin st (exSs (Gd T n none) b_make_ratio [some x0, some x1] st) := rfl
theorem c_ratio_plus {n : Nat} {st : Store} {x0 : PV} {x1 : PV} : callN T (n + 1) 6 [x0, x1] st = fin st (exSs (Gd T n none) b_ratio_plus [some x0, some x1] st) := rfl
theorem c_ratio_minus {n : Nat} {st : Store} {x0 : PV} {x1 : PV} : callN T (n + 1) 7 [x0, x1] st = fin st (exSs (Gd T n none) b_ratio_minus [some x0, some x1] st) := rfl
theorem c_ratio_times {n : Nat} {st : Store} {x0 : PV} {x1 : PV} : callN T (n + 1) 8 [x0, x1] st = fin st (exSs (Gd T n none) b_ratio_times [some x0, some x1] st) := rfl
theorem c_ratio_over {n : Nat} {st : Store} {x0 : PV} {x1 : PV} : callN T (n + 1) 9 [x0, x1] st = fin st (exSs (Gd T n none) b_ratio_over [some x0, some x1] st) := rfl
theorem c_ratio_compare {n : Nat} {st : Store} {x0 : PV} {x1 : PV} : callN T (n + 1) 10 [x0, x1] st = fin st (exSs (Gd T n none) b_ratio_compare [some x0, some x1, none] st) := rfl
theorem c_rest_undone {n : Nat} {st : Store} {x0 : PV} {x1 : PV} : callN T (n + 1) 11 [x0, x1] st = fin st (exSs (Gd T n none) b_rest_undone [some x0, some x1, none, none] st) := rfl
theorem c_Figures___init__ {n : Nat} {st : Store} {x0 : PV} {x1 : PV} : callN T (n + 1) 12 [x0, x1] st = fin st (exSs (Gd T n none) b_Figures___init__ [some x0, some x1] st) := rfl
theorem c_Figures___eq__ {n : Nat} {st : Store} {x0 : PV} {x1 : PV} : callN T (n + 1) 13 [x0, x1] st = fin st (exSs (Gd T n none) b_Figures___eq__ [some x0, some x1] st) := rfl
theorem c_Figures_plus {n : Nat} {st : Store} {x0 : PV} {x1 : PV} {x2 : PV} : callN T (n + 1) 14 [x0, x1, x2] st = fin st (exSs (Gd T n none) b_Figures_plus [some x0, some x1, some x2] st) := rfl
theorem c_Figures_minus {n : Nat} {st : Store} {x0 : PV} {x1 : PV} {x2 : PV} : callN T (n + 1) 15 [x0, x1, x2] st = fin st (exSs (Gd T n none) b_Figures_minus [some x0, some x1, some x2] st) := rfl
theorem c_Figures_times {n : Nat} {st : Store} {x0 : PV} {x1 : PV} {x2 : PV} : callN T (n + 1) 16 [x0, x1, x2] st = fin st (exSs (Gd T n none) b_Figures_times [some x0, some x1, some x2] st) := rfl
theorem c_Figures_over {n : Nat} {st : Store} {x0 : PV} {x1 : PV} {x2 : PV} : callN T (n + 1) 17 [x0, x1, x2] st = fin st (exSs (Gd T n none) b_Figures_over [some x0, some x1, some x2] st) := rfl
theorem c_Figures_negative {n : Nat} {st : Store} {x0 : PV} {x1 : PV} : callN T (n + 1) 18 [x0, x1] st = fin st (exSs (Gd T n none) b_Figures_negative [some x0, some x1] st) := rfl
theorem c_Figures_compare {n : Nat} {st : Store} {x0 : PV} {x1 : PV} {x2 : PV} : callN T (n + 1) 19 [x0, x1, x2] st = fin st (exSs (Gd T n none) b_Figures_compare [some x0, some x1, some x2] st) := rfl
theorem c_Figures_whole_number {n : Nat} {st : Store} {x0 : PV} {x1 : PV} : callN T (n + 1) 20 [x0, x1] st = fin st (exSs (Gd T n none) b_Figures_whole_number [some x0, some x1] st) := rfl
theorem c_Figures_number_of {n : Nat} {st : Store} {x0 : PV} {x1 : PV} : callN T (n + 1) 21 [x0, x1] st = fin st (exSs (Gd T n none) b_Figures_number_of [some x0, some x1] st) := rfl
theorem c_Figures_is_number {n : Nat} {st : Store} {x0 : PV} {x1 : PV} : callN T (n + 1) 22 [x0, x1] st = fin st (exSs (Gd T n none) b_Figures_is_number [some x0, some x1] st) := rfl
theorem c_Figures_all_numbers {n : Nat} {st : Store} {x0 : PV} : callN T (n + 1) 23 [x0] st = fin st (exSs (Gd T n none) b_Figures_all_numbers [some x0] st) := rfl
theorem c__law_hand {n : Nat} {st : Store} {x0 : PV} : callN T (n + 1) 24 [x0] st = fin st (exSs (Gd T n none) b__law_hand [some x0, none, none, none] st) := rfl
theorem c__law_mixed {n : Nat} {st : Store} {x0 : PV} {x1 : PV} : callN T (n + 1) 25 [x0, x1] st = fin st (exSs (Gd T n none) b__law_mixed [some x0, some x1, none, none] st) := rfl
theorem c__law_take {n : Nat} {st : Store} {x0 : PV} {x1 : PV} : callN T (n + 1) 26 [x0, x1] st = fin st (exSs (Gd T n none) b__law_take [some x0, some x1, none, none] st) := rfl
theorem c__law_gcd {n : Nat} {st : Store} {x0 : PV} {x1 : PV} : callN T (n + 1) 27 [x0, x1] st = fin st (exSs (Gd T n none) b__law_gcd [some x0, some x1, none, none, none, none] st) := rfl
theorem c__law_ratio {n : Nat} {st : Store} {x0 : PV} {x1 : PV} : callN T (n + 1) 28 [x0, x1] st = fin st (exSs (Gd T n none) b__law_ratio [some x0, some x1, none] st) := rfl
theorem c__law_top {n : Nat} {st : Store} {x0 : PV} : callN T (n + 1) 29 [x0] st = fin st (exSs (Gd T n none) b__law_top [some x0] st) := rfl
theorem c__law_fraction {n : Nat} {st : Store} {x0 : PV} : callN T (n + 1) 30 [x0] st = fin st (exSs (Gd T n none) b__law_fraction [some x0] st) := rfl
theorem c__law_drawn {n : Nat} {st : Store} {x0 : PV} {x1 : PV} : callN T (n + 1) 31 [x0, x1] st = fin st (exSs (Gd T n none) b__law_drawn [some x0, some x1] st) := rfl
theorem c__law_same {n : Nat} {st : Store} {x0 : PV} {x1 : PV} : callN T (n + 1) 32 [x0, x1] st = fin st (exSs (Gd T n none) b__law_same [some x0, some x1] st) := rfl
theorem c__law_whole {n : Nat} {st : Store} {x0 : PV} : callN T (n + 1) 33 [x0] st = fin st (exSs (Gd T n none) b__law_whole [some x0] st) := rfl
theorem c__law_sign {n : Nat} {st : Store} {x0 : PV} : callN T (n + 1) 34 [x0] st = fin st (exSs (Gd T n none) b__law_sign [some x0] st) := rfl
theorem c__law_ratios {n : Nat} {st : Store} {x0 : PV} {x1 : PV} : callN T (n + 1) 35 [x0, x1] st = fin st (exSs (Gd T n none) b__law_ratios [some x0, some x1, none, none, none, none, none, none, none] st) := rfl
theorem c__law_made {n : Nat} {st : Store} {x0 : PV} {x1 : PV} : callN T (n + 1) 36 [x0, x1] st = fin st (exSs (Gd T n none) b__law_made [some x0, some x1, none, none, none] st) := rfl
theorem c__law_rests {n : Nat} {st : Store} {x0 : PV} {x1 : PV} {x2 : PV} {x3 : PV} : callN T (n + 1) 37 [x0, x1, x2, x3] st = fin st (exSs (Gd T n none) b__law_rests [some x0, some x1, some x2, some x3, none, none, none, none, none, none] st) := rfl
theorem c__law_fractions {n : Nat} {st : Store} {x0 : PV} {x1 : PV} {x2 : PV} : callN T (n + 1) 38 [x0, x1, x2] st = fin st (exSs (Gd T n none) b__law_fractions [some x0, some x1, some x2] st) := rfl
theorem c__law_read {n : Nat} {st : Store} {x0 : PV} {x1 : PV} {x2 : PV} {x3 : PV} : callN T (n + 1) 39 [x0, x1, x2, x3] st = fin st (exSs (Gd T n none) b__law_read [some x0, some x1, some x2, some x3, none, none, none, none, none] st) := rfl
theorem c__law_numbers {n : Nat} {st : Store} {x0 : PV} {x1 : PV} {x2 : PV} {x3 : PV} : callN T (n + 1) 40 [x0, x1, x2, x3] st = fin st (exSs (Gd T n none) b__law_numbers [some x0, some x1, some x2, some x3, none, none] st) := rfl
theorem c__law_kinds {n : Nat} {st : Store} {x0 : PV} {x1 : PV} {x2 : PV} : callN T (n + 1) 41 [x0, x1, x2] st = fin st (exSs (Gd T n none) b__law_kinds [some x0, some x1, some x2, none] st) := rfl
theorem c__law_refused {n : Nat} {st : Store} {x0 : PV} : callN T (n + 1) 42 [x0] st = fin st (exSs (Gd T n none) b__law_refused [some x0, none] st) := rfl
theorem c_law {n : Nat} {st : Store} {x0 : PV} : callN T (n + 1) 43 [x0] st = fin st (exSs (Gd T n none) b_law [some x0, none, none, none, none, none, none, none, none, none, none, none, none, none] st) := rfl
theorem sub_PairError {n : Nat} {xn : Option (Nat × List Nat × List PV)} {d : Nat} : (Gd T n xn).sub 0 d = [0].any (fun e => e == d) := rfl
theorem sub_BadRatio {n : Nat} {xn : Option (Nat × List Nat × List PV)} {d : Nat} : (Gd T n xn).sub 1 d = [1, 0].any (fun e => e == d) := rfl
theorem rz_BadRatio {n : Nat} {xn : Option (Nat × List Nat × List PV)} {fr : Frame} {st : Store} {x0 : PV} : raiseOf (Gd T n xn) 1 [x0] fr st = .exc 1 [10] [x0] fr st := rfl
theorem sub_DividedByNought {n : Nat} {xn : Option (Nat × List Nat × List PV)} {d : Nat} : (Gd T n xn).sub 2 d = [2, 0].any (fun e => e == d) := rfl
theorem rz_DividedByNought {n : Nat} {xn : Option (Nat × List Nat × List PV)} {fr : Frame} {st : Store} : raiseOf (Gd T n xn) 2 [] fr st = .exc 2 [] [] fr st := rfl
theorem sub_BadFigures {n : Nat} {xn : Option (Nat × List Nat × List PV)} {d : Nat} : (Gd T n xn).sub 3 d = [3, 0].any (fun e => e == d) := rfl
theorem rz_BadFigures {n : Nat} {xn : Option (Nat × List Nat × List PV)} {fr : Frame} {st : Store} {x0 : PV} : raiseOf (Gd T n xn) 3 [x0] fr st = .exc 3 [11] [x0] fr st := rfl
theorem sub_BadNumber {n : Nat} {xn : Option (Nat × List Nat × List PV)} {d : Nat} : (Gd T n xn).sub 4 d = [4, 0].any (fun e => e == d) := rfl
theorem rz_BadNumber {n : Nat} {xn : Option (Nat × List Nat × List PV)} {fr : Frame} {st : Store} : raiseOf (Gd T n xn) 4 [] fr st = .exc 4 [] [] fr st := rfl
theorem sub_Figures {n : Nat} {xn : Option (Nat × List Nat × List PV)} {d : Nat} : (Gd T n xn).sub 5 d = [5].any (fun e => e == d) := rfl
theorem m_Figures_plus {n : Nat} {xn : Option (Nat × List Nat × List PV)} {st : Store} {ks : List Nat} {ws : List PV} : methOf (Gd T n xn) 0 (.ins 5 ks ws) st = some 14 := rfl
theorem mo_Figures_plus {n k : Nat} {xn : Option (Nat × List Nat × List PV)} {st : Store} {ks : List Nat} {ws : List PV} (h : st[k]? = some (.ins 5 ks ws)) : methOf (Gd T n xn) 0 (.obj k) st = some 14 := by
  unfold methOf clsOf; simp only [h]; rfl
theorem m_Figures_minus {n : Nat} {xn : Option (Nat × List Nat × List PV)} {st : Store} {ks : List Nat} {ws : List PV} : methOf (Gd T n xn) 1 (.ins 5 ks ws) st = some 15 := rfl
theorem mo_Figures_minus {n k : Nat} {xn : Option (Nat × List Nat × List PV)} {st : Store} {ks : List Nat} {ws : List PV} (h : st[k]? = some (.ins 5 ks ws)) : methOf (Gd T n xn) 1 (.obj k) st = some 15 := by
  unfold methOf clsOf; simp only [h]; rfl
theorem m_Figures_times {n : Nat} {xn : Option (Nat × List Nat × List PV)} {st : Store} {ks : List Nat} {ws : List PV} : methOf (Gd T n xn) 2 (.ins 5 ks ws) st = some 16 := rfl
theorem mo_Figures_times {n k : Nat} {xn : Option (Nat × List Nat × List PV)} {st : Store} {ks : List Nat} {ws : List PV} (h : st[k]? = some (.ins 5 ks ws)) : methOf (Gd T n xn) 2 (.obj k) st = some 16 := by
  unfold methOf clsOf; simp only [h]; rfl
theorem m_Figures_over {n : Nat} {xn : Option (Nat × List Nat × List PV)} {st : Store} {ks : List Nat} {ws : List PV} : methOf (Gd T n xn) 3 (.ins 5 ks ws) st = some 17 := rfl
theorem mo_Figures_over {n k : Nat} {xn : Option (Nat × List Nat × List PV)} {st : Store} {ks : List Nat} {ws : List PV} (h : st[k]? = some (.ins 5 ks ws)) : methOf (Gd T n xn) 3 (.obj k) st = some 17 := by
  unfold methOf clsOf; simp only [h]; rfl
theorem m_Figures_negative {n : Nat} {xn : Option (Nat × List Nat × List PV)} {st : Store} {ks : List Nat} {ws : List PV} : methOf (Gd T n xn) 4 (.ins 5 ks ws) st = some 18 := rfl
theorem mo_Figures_negative {n k : Nat} {xn : Option (Nat × List Nat × List PV)} {st : Store} {ks : List Nat} {ws : List PV} (h : st[k]? = some (.ins 5 ks ws)) : methOf (Gd T n xn) 4 (.obj k) st = some 18 := by
  unfold methOf clsOf; simp only [h]; rfl
theorem m_Figures_compare {n : Nat} {xn : Option (Nat × List Nat × List PV)} {st : Store} {ks : List Nat} {ws : List PV} : methOf (Gd T n xn) 5 (.ins 5 ks ws) st = some 19 := rfl
theorem mo_Figures_compare {n k : Nat} {xn : Option (Nat × List Nat × List PV)} {st : Store} {ks : List Nat} {ws : List PV} (h : st[k]? = some (.ins 5 ks ws)) : methOf (Gd T n xn) 5 (.obj k) st = some 19 := by
  unfold methOf clsOf; simp only [h]; rfl
theorem m_Figures_whole_number {n : Nat} {xn : Option (Nat × List Nat × List PV)} {st : Store} {ks : List Nat} {ws : List PV} : methOf (Gd T n xn) 6 (.ins 5 ks ws) st = some 20 := rfl
theorem mo_Figures_whole_number {n k : Nat} {xn : Option (Nat × List Nat × List PV)} {st : Store} {ks : List Nat} {ws : List PV} (h : st[k]? = some (.ins 5 ks ws)) : methOf (Gd T n xn) 6 (.obj k) st = some 20 := by
  unfold methOf clsOf; simp only [h]; rfl
theorem m_Figures_number_of {n : Nat} {xn : Option (Nat × List Nat × List PV)} {st : Store} {ks : List Nat} {ws : List PV} : methOf (Gd T n xn) 7 (.ins 5 ks ws) st = some 21 := rfl
theorem mo_Figures_number_of {n k : Nat} {xn : Option (Nat × List Nat × List PV)} {st : Store} {ks : List Nat} {ws : List PV} (h : st[k]? = some (.ins 5 ks ws)) : methOf (Gd T n xn) 7 (.obj k) st = some 21 := by
  unfold methOf clsOf; simp only [h]; rfl
theorem m_Figures_is_number {n : Nat} {xn : Option (Nat × List Nat × List PV)} {st : Store} {ks : List Nat} {ws : List PV} : methOf (Gd T n xn) 8 (.ins 5 ks ws) st = some 22 := rfl
theorem mo_Figures_is_number {n k : Nat} {xn : Option (Nat × List Nat × List PV)} {st : Store} {ks : List Nat} {ws : List PV} (h : st[k]? = some (.ins 5 ks ws)) : methOf (Gd T n xn) 8 (.obj k) st = some 22 := by
  unfold methOf clsOf; simp only [h]; rfl
theorem m_Figures_all_numbers {n : Nat} {xn : Option (Nat × List Nat × List PV)} {st : Store} {ks : List Nat} {ws : List PV} : methOf (Gd T n xn) 9 (.ins 5 ks ws) st = some 23 := rfl
theorem mo_Figures_all_numbers {n k : Nat} {xn : Option (Nat × List Nat × List PV)} {st : Store} {ks : List Nat} {ws : List PV} (h : st[k]? = some (.ins 5 ks ws)) : methOf (Gd T n xn) 9 (.obj k) st = some 23 := by
  unfold methOf clsOf; simp only [h]; rfl
theorem cls_Figures {n : Nat} {xn : Option (Nat × List Nat × List PV)} : (Gd T n xn).cls 5 = some ⟨true, some 12, [(0, 14), (1, 15), (2, 16), (3, 17), (4, 18), (5, 19), (6, 20), (7, 21), (8, 22), (9, 23)], some 13, [11, 12, 13], [5], none⟩ := rfl
end Lk00

set_option Elab.async false
set_option linter.all false
set_option maxRecDepth 100000
set_option maxHeartbeats 0
namespace Lk00
open PySem PySem.Spec PyProof.Rows L2 Ev
abbrev pg : Program := PySem.Challenge.pw_sparedproducts_k00_whole_numbers_reckone
abbrev R : PySem.W.OpenRow := PySem.W.OpenLaw.row PySem.Challenge.rw_sparedproducts_k00_whole_numbers_reckone
def st (i : Nat) : Stmt := pg.main.body.getD i (.Pass ⟨0, 0, 0, 0⟩)
def mt (i j : Nat) : Stmt := match st i with
  | .ClassDef _ _ _ b _ _ _ _ _ _ _ => b.getD j (.Pass ⟨0, 0, 0, 0⟩)
  | _ => .Pass ⟨0, 0, 0, 0⟩
def pvOf : PySem.Expr → PV
  | .Constant (.int i) _ _ => .int i
  | .Constant (.bool b) _ _ => .bl b
  | .Constant (.str x) _ _ => .str x
  | _ => .non
def fnAt (pre : Option Str) (s : Stmt) (fA : Nat) (N : List Str) : FnL := match s with
  | .FunctionDef n a b _ _ _ sc _ _ _ => ⟨n, (match pre with
    | none => n
    | some C => C ++ ("." : Str) ++ n), a, b, sc, a.defaults.map pvOf, fA, N, a.args.map (·.arg)⟩
  | _ => ⟨"", "", ⟨[], [], none, [], [], none, []⟩, [], ⟨.function, [], false, false, []⟩, [], 0, [], []⟩
def fns0 : List FnL := [
  fnAt none (st 7) 111 ["thing", "low", "high"],
  fnAt none (st 8) 118 ["thing"],
  fnAt none (st 9) 125 ["one", "other", "low", "high"],
  fnAt none (st 10) 132 ["thing"],
  fnAt none (st 11) 139 ["top", "bottom", "common"],
  fnAt none (st 12) 147 ["top", "bottom"],
  fnAt none (st 13) 154 ["one", "other"],
  fnAt none (st 14) 161 ["one", "other"],
  fnAt none (st 15) 168 ["one", "other"],
  fnAt none (st 16) 175 ["one", "other"],
  fnAt none (st 17) 182 ["one", "other", "gap"],
  fnAt none (st 20) 190 ["number", "prime", "told", "k"],
  fnAt (some "Figures") (mt 21 0) 204 ["self", "prime"],
  fnAt (some "Figures") (mt 21 1) 211 ["self", "other"],
  fnAt (some "Figures") (mt 21 2) 218 ["self", "one", "other"],
  fnAt (some "Figures") (mt 21 3) 225 ["self", "one", "other"],
  fnAt (some "Figures") (mt 21 4) 232 ["self", "one", "other"],
  fnAt (some "Figures") (mt 21 5) 239 ["self", "one", "other"],
  fnAt (some "Figures") (mt 21 6) 246 ["self", "one"],
  fnAt (some "Figures") (mt 21 7) 253 ["self", "one", "other"]]
def fns1 : List FnL := [
  fnAt (some "Figures") (mt 21 8) 260 ["self", "many"],
  fnAt (some "Figures") (mt 21 9) 267 ["self", "ratio"],
  fnAt (some "Figures") (mt 21 10) 274 ["self", "thing"],
  fnAt (some "Figures") (mt 21 11) 281 ["self"],
  fnAt none (st 23) 295 ["_law_script", "_law_total", "_law_cells", "_law_cell"],
  fnAt none (st 24) 302 ["_law_number", "_law_turn", "_law_once", "_law_twice"],
  fnAt none (st 25) 309 ["_law_hand_here", "_law_many", "_law_cell", "_law_rest"],
  fnAt none (st 26) 316 ["_law_one", "_law_other", "_law_a", "_law_b", "_law_k", "_law_rest"],
  fnAt none (st 27) 323 ["_law_top_here", "_law_bottom", "_law_common"],
  fnAt none (st 28) 330 ["_law_hand_here"],
  fnAt none (st 29) 337 ["_law_hand_here"],
  fnAt none (st 30) 344 ["_law_hand_here", "_law_p"],
  fnAt none (st 31) 351 ["_law_told", "_law_due"],
  fnAt none (st 32) 358 ["_law_thing"],
  fnAt none (st 33) 365 ["_law_number"],
  fnAt none (st 34) 372 ["_law_one", "_law_other", "_law_both", "_law_order", "_law_quotient", "_law_refused_here", "e", "_law_told", "_law_due"],
  fnAt none (st 35) 379 ["_law_top_here", "_law_bottom", "_law_told", "_law_what", "e"],
  fnAt none (st 36) 386 ["_law_figures", "_law_p", "_law_one", "_law_other", "_law_dues", "_law_quotient", "_law_refused_here", "e", "_law_told", "_law_due"],
  fnAt none (st 37) 393 ["_law_figures", "_law_one", "_law_other"],
  fnAt none (st 38) 398 ["_law_figures", "_law_p", "_law_ratio_here", "_law_many", "_law_whole_here", "_law_told", "_law_refused_here", "e", "_law_k"]]
def fns2 : List FnL := [
  fnAt none (st 39) 405 ["_law_figures", "_law_p", "_law_one", "_law_many", "_law_odd", "_law_thing"],
  fnAt none (st 40) 412 ["_law_least", "_law_most", "_law_many", "_law_told"],
  fnAt none (st 41) 419 ["_law_prime", "e"],
  fnAt none (st 42) 424 ["_law_script", "_law_hand_here", "_law_p", "_law_figures", "_law_rows", "_law_one", "_law_many", "_law_first", "_law_second", "_law_top_here", "_law_bottom", "_law_wrong", "_law_other", "_law_k"]]
def fns : List FnL := fns0 ++ fns1 ++ fns2
def atts0 : List Str := ["plus", "minus", "times", "over", "negative", "compare", "whole_number", "number_of", "is_number", "all_numbers", "what", "prime", "zero", "one"]
def atts : List Str := atts0
def globs0 : List (Str × GK) := [("is_whole", .fn 0), ("is_sequence", .fn 1), ("common_divisor", .fn 2), ("is_ratio", .fn 3), ("lowest_terms", .fn 4), ("make_ratio", .fn 5), ("ratio_plus", .fn 6), ("ratio_minus", .fn 7), ("ratio_times", .fn 8), ("ratio_over", .fn 9), ("ratio_compare", .fn 10), ("rest_undone", .fn 11), ("_law_hand", .fn 24), ("_law_mixed", .fn 25), ("_law_take", .fn 26), ("_law_gcd", .fn 27), ("_law_ratio", .fn 28), ("_law_top", .fn 29), ("_law_fraction", .fn 30), ("_law_drawn", .fn 31)]
def globs1 : List (Str × GK) := [("_law_same", .fn 32), ("_law_whole", .fn 33), ("_law_sign", .fn 34), ("_law_ratios", .fn 35), ("_law_made", .fn 36), ("_law_rests", .fn 37), ("_law_fractions", .fn 38), ("_law_read", .fn 39), ("_law_numbers", .fn 40), ("_law_kinds", .fn 41), ("_law_refused", .fn 42), ("law", .fn 43), ("PairError", .cls 0), ("BadRatio", .cls 1), ("DividedByNought", .cls 2), ("BadFigures", .cls 3), ("BadNumber", .cls 4), ("Figures", .cls 5), ("KNOWN_PRIMES", .con (.tup [.int (0), .int (2), .int (3), .int (5), .int (7), .int (11), .int (13)]))]
def globs : List (Str × GK) := globs0 ++ globs1
def xcs : List XcL := [
  ⟨1, 1, [(10, 0)], fnAt (some "BadRatio") (mt 2 0) 41 ["self", "what"], 24⟩,
  ⟨2, 0, [], fnAt (some "DividedByNought") (mt 3 0) 60 ["self"], 24⟩,
  ⟨3, 1, [(11, 0)], fnAt (some "BadFigures") (mt 4 0) 79 ["self", "prime"], 24⟩,
  ⟨4, 0, [], fnAt (some "BadNumber") (mt 5 0) 98 ["self"], 24⟩]
def cAs : List Addr := [24, 44, 63, 82, 101, 284]
def xcl : List Nat := [0, 1, 2, 3, 4]
def L : LawD := ⟨cAs, T, fns, globs, xcl, atts, xcs⟩
def as : List Addr := [2, 3, 6, 4, 24, 44, 63, 82, 101, 111, 118, 125, 132, 139, 147, 154, 161, 168, 175, 182, 183, 190, 284, 295, 302, 309, 316, 323, 330, 337, 344, 351, 358, 365, 372, 379, 386, 393, 398, 405, 412, 419, 424, 23, 43, 62, 81, 100, 110, 104, 117, 124, 131, 138, 146, 140, 153, 160, 167, 174, 181, 189, 283, 294, 301, 308, 315, 322, 329, 336, 343, 350, 357, 364, 371, 378, 385, 392, 397, 404, 411, 418, 423, 22, 25, 41, 42, 60, 61, 79, 80, 98, 99, 105, 106, 107, 108, 109, 112, 113, 114, 115, 116, 119, 120, 121, 122, 123, 126, 127, 128, 129, 130, 133, 134, 135, 136, 137, 141, 142, 143, 144, 145, 148, 149, 150, 151, 152, 155, 156, 157, 158, 159, 162, 163, 164, 165, 166, 169, 170, 171, 172, 173, 176, 177, 178, 179, 180, 184, 185, 186, 187, 188, 204, 211, 218, 225, 232, 239, 246, 253, 260, 267, 274, 281, 282, 285, 286, 289, 290, 291, 292, 293, 296, 297, 298, 299, 300, 303, 304, 305, 306, 307, 310, 311, 312, 313, 314, 317, 318, 319, 320, 321, 324, 325, 326, 327, 328, 331, 332, 333, 334, 335, 338, 339, 340, 341, 342, 345, 346, 347, 348, 349, 352, 353, 354, 355, 356, 359, 360, 361, 362, 363, 366, 367, 368, 369, 370, 373, 374, 375, 376, 377, 380, 381, 382, 383, 384, 387, 388, 389, 390, 391, 394, 395, 396, 399, 400, 401, 402, 403, 406, 407, 408, 409, 410, 413, 414, 415, 416, 417, 420, 421, 422, 40, 59, 78, 97, 203, 210, 217, 224, 231, 238, 245, 252, 259, 266, 273, 280, 35, 36, 37, 38, 39, 54, 55, 56, 57, 58, 73, 74, 75, 76, 77, 92, 93, 94, 95, 96, 198, 199, 200, 201, 202, 205, 206, 207, 208, 209, 212, 213, 214, 215, 216, 219, 220, 221, 222, 223, 226, 227, 228, 229, 230, 233, 234, 235, 236, 237, 240, 241, 242, 243, 244, 247, 248, 249, 250, 251, 254, 255, 256, 257, 258, 261, 262, 263, 264, 265, 268, 269, 270, 271, 272, 275, 276, 277, 278, 279]
def nm0 : List PySem.Str := ["PairError", "BadRatio", "DividedByNought", "BadFigures", "BadNumber", "is_whole", "is_sequence", "common_divisor", "is_ratio", "lowest_terms", "make_ratio", "ratio_plus", "ratio_minus", "ratio_times", "ratio_over", "ratio_compare", "KNOWN_PRIMES", "rest_undone", "Figures", "_law_hand", "_law_mixed", "_law_take", "_law_gcd", "_law_ratio", "_law_top", "_law_fraction", "_law_drawn", "_law_same", "_law_whole", "_law_sign"]
def nm1 : List PySem.Str := ["_law_ratios", "_law_made", "_law_rests", "_law_fractions", "_law_read", "_law_numbers", "_law_kinds", "_law_refused"]
def loose : List PySem.Str := nm0 ++ nm1
theorem ha : attsB L.atts = true := by decide +kernel
abbrev hk : PySem.W.Hook := L.hook as
def ob (s : PySem.W.SharedT) : Bool × List He.FnW := L.ob as (HandSHeadRun.getT s)
theorem ob_eq (s : PySem.W.SharedT) : ob s = hk.obs s.abs := LawD.ob_eq (HandSHeadRun.getT_eq s)
theorem run (w : World) : HandSHeadRun.RunEq R (PySem.W.view R.prog [42]) hk ob 20000 loose w := by
  intro os
  kernel_rfl
theorem comp (K : PySem.W.Frag) : (fns.map fun f => cBody (L.ent K) 12 (fnSC (f.toW K)) f.body) = cfs.map fun c => some c.body := by
  kernel_rfl
theorem comp_at (K : PySem.W.Frag) (i : Nat) (D : DefW) (cf : CFun) (hD : (L.ent K).defs[i]? = some D) (hcf : (L.ent K).T.fns[i]? = some cf) : cBody (L.ent K) 12 (fnSC D) D.body = some cf.body := by
  have hD' : (fns.map (FnL.toW K))[i]? = some D := hD
  have hcf' : cfs[i]? = some cf := hcf
  rw [List.getElem?_map] at hD'
  obtain ⟨f, q1, rfl⟩ := map_some hD'
  have e := congrArg (fun z => z[i]?) (comp K)
  simp only [List.getElem?_map, q1, hcf', Option.map_some] at e
  exact Option.some.inj e
theorem law_at : globs.lookup ("law" : PySem.Str) = some (.fn 43) := by kernel_rfl
theorem lt_fns : 43 < fns.length := by decide +kernel
def lawF : FnL := fns.getD 43 (fnAt none (.Pass ⟨0, 0, 0, 0⟩) 0 [])
theorem lawF_dvs (K : PySem.W.Frag) : (lawF.toW K).dvs = [] := by kernel_rfl
theorem lawF_ps (K : PySem.W.Frag) : (lawF.toW K).ps = [("_law_script" : PySem.Str)] := by kernel_rfl
theorem lawF_at (K : PySem.W.Frag) : (L.ent K).defs[43]? = some (lawF.toW K) := map_getD (f := FnL.toW K) (l := fns) lt_fns
theorem tail (n : Nat) (plain : ∀ ns : List Int, ns.length ≤ 63 → ∃ st, callN T n 43 [.flst (ns.map PV.int)] [] = .ok (.bl true) st)
    (w : World) (mg : Str → Option Value) (fa : Addr) (h : Heap) (Y : hk.says w h) (G : h.Ns mainGlobals mg) (hmg : mg ("law" : PySem.Str) = some (.ref fa)) : ∃ (X : Fx) (E : Ent) (D : DefW) (cf : CFun), X.K.In h ∧ EntOk X E mg ∧ XcAll X E mg ∧
      (∀ (i : Nat) D cf, E.defs[i]? = some D → E.T.fns[i]? = some cf → cBody E 12 (fnSC D) D.body = some cf.body) ∧ E.defs[43]? = some D ∧ E.T.fns[43]? = some cf ∧ D.fA = fa ∧ D.ps = [("_law_script" : PySem.Str)] ∧ D.dvs = [] ∧
      (∀ (ns : List Int), ns.length ≤ 63 → ∃ st, callN E.T n 43 [.flst (ns.map PV.int)] [] = .ok (.bl true) st) := by
  obtain ⟨K, KX, c⟩ := Y
  obtain ⟨en, xc⟩ := LawD.facts ha c KX G
  obtain ⟨D, hD, hm⟩ := en.fn ("law" : PySem.Str) 43 law_at
  have efa : D.fA = fa := by
    rw [hm] at hmg
    injection hmg with z
    injection z
  have hD2 : D = lawF.toW K := Option.some.inj (hD.symm.trans (lawF_at K))
  exact ⟨L.fx ha K, L.ent K, D, f_law, KX, en, xc, comp_at K, hD, rfl, efa, by rw [hD2]; exact lawF_ps K, by rw [hD2]; exact lawF_dvs K, plain⟩
end Lk00
open PySem PySem.W PySem.Calls PyProof.Rows in
theorem Lk00_holds (n : Nat) (hn : n ≤ 50) (plain : ∀ ns : List Int, ns.length ≤ 63 → ∃ st, Ev.callN Lk00.T n 43 [.flst (ns.map Ev.PV.int)] [] = .ok (.bl true) st) : PySem.Challenge.rw_sparedproducts_k00_whole_numbers_reckone.Holds := by
  w_on; o_law
  refine HandSHeadRun.head_any (r := OpenLaw.row PySem.Challenge.rw_sparedproducts_k00_whole_numbers_reckone) (q := view (OpenLaw.row PySem.Challenge.rw_sparedproducts_k00_whole_numbers_reckone).prog [42]) (H := Lk00.hk) (ob := Lk00.ob) (M := 20000) (loose := Lk00.loose) (d := HandSHeadRun.topDef (OpenLaw.row PySem.Challenge.rw_sparedproducts_k00_whole_numbers_reckone).prog 42) (kwd := []) Lk00.ob_eq
    (by kernel_rfl) (fun s => by kernel_rfl) Lk00.run (by kernel_rfl) (by kernel_rfl) (by kernel_rfl) (by rfl) (by first | assumption | decide +kernel) (by decide +kernel) ⟨rfl, rfl, rfl, rfl, rfl, by decide +kernel⟩ ?hw ?hc
  case hw => w_witness2
  case hc =>
    refine Ev.law_end (l := PySem.Challenge.rw_sparedproducts_k00_whole_numbers_reckone) (nn := 63) (n := n) (x := "_law_script") (iL := 43) (M := 12) rfl (by decide) (by kernel_rfl) ⟨rfl, by show _ < _; simp only [show PySem.recursionLimit = 1000 from rfl]; exact Nat.lt_of_le_of_lt (Nat.add_le_add_right (Nat.add_le_add_left (Nat.mul_le_mul_left 3 (Nat.mul_le_mul_left 4 hn)) _) 5) (by decide), by show _ < _; simp only [show PySem.cLine = 9900 from rfl]; exact Nat.lt_of_le_of_lt (Nat.add_le_add_right (Nat.add_le_add_left (Nat.mul_le_mul_left 16 (Nat.mul_le_mul_left 4 hn)) _) 200) (by decide)⟩ ?F
    intro w mg fa h Y G hmg0
    exact Lk00.tail n plain w mg fa h Y G (Eq.mp (congrArg (fun x => mg x = some (.ref fa)) (show (HandSHeadRun.topDef (OpenLaw.row PySem.Challenge.rw_sparedproducts_k00_whole_numbers_reckone).prog 42).name = ("law" : PySem.Str) from by kernel_rfl)) hmg0)

set_option Elab.async false
set_option linter.all false
set_option maxRecDepth 100000
set_option maxHeartbeats 4000000
namespace Lk00
open Ev Sg
open PySem (Str)
local macro_rules | `(tactic| simp! [$ls,*]) => `(tactic| simp -implicitDefEqProofs only [
  e_var, vK_s, e_cst, e_bin, bin1_ok, bin2_ok, bin1_ex, bin2_ex, e_neg, neg1_ok, neg1_ex, e_nt,
  nt1_ok, nt1_ex, ntB_s, e_and, and1_ok, and1_ex, andB_t, andB_f, e_or, or1_ok, or1_ex, orB_t,
  orB_f, e_cmp, cmp1_ok, cmp2_ok, cmp1_ex, cmp2_ex, e_cmpD, cmD1_ok, cmD2_ok, cmD1_ex, cmD2_ex, e_chain,
  ch1_ok, ch2_ok, ch3_ok, chB_t, chB_f, ch4_ok, e_ite, ite1_ok, ite1_ex, iteB_t, iteB_f, e_tup,
  tup1_ok, tup1_ex, e_lst, lst1_ok, lst1_ex, es_nil, es_cons, es1_ok, es2_ok, es1_ex, es2_ex, e_call,
  call1_ok, call1_ex, pick_nil, pick_cons, pick1_s, e_callB, callb1_ok, callb1_ex, callb2_s, e_make, make1_ok, make1_ex,
  e_meth, meth1_ok, meth1_ex, methB_s, meth2_ok, meth2_ex, e_attr, attr1_ok, attr1_ex, attrOf_ins, opt_s, e_ix,
  ix1_ok, ix2_ok, ix1_ex, ix2_ex, e_slc, sl1_ok, sl2_ok, sl3_ok, slH_t, slH_f, prt_i, e_rslc,
  rsl1_ok, e_blt, blt_1_ok, blt_1_ex, e_lm, lm1_ok, lm1_ex, lmB_t, lm2_ok, lm2_ex, e_isin, is1_ok,
  is1_ex, isB1_s, ist_nil, ist_cons, istK_t, istK_f, e_xat, e_xis, ext_nil, ext_own, ext_verr, i_rng,
  rng1_ok, rng1_ex, rngK_s, i_revr, rvr1_ok, rvrK_s, i_seq, seqI1_ok, seqI1_ex, i_enm, enm1_ok, enmK_s,
  i_rev, rev1_ok, revK_s, i_zip, zip1_ok, zip2_ok, cpE_ok, e_comp, cp1_ok, cp1_ex, e_comp2, cp2_1_ok,
  cbE_ok, e_bltC, cb1_ok, cb1_ex, e_bltI, bi1_ok, t_nil, t_cons, ts1_ok, tsK_t, tsK_f, cpD_ok,
  cpC_ok, cpB_t, cpB_f, cpA_s, ss_nil, ss_cons, seqK_nx, seqK_rt, seqK_bk, seqK_ct, seqK_ex, s_expr,
  sExpr_ok, sExpr_ex, s_set, sSet_ok, sSet_ex, sFr_s, s_setT, sSetT_ok, sSetT_ex, asg_nm, asg_tp, sa_nil,
  sa_cons, s_par, sPar_ok, sPar_ex, sSt_s, s_sub, sb1_ok, sb1_ex, sb2_ok, sb3_ok, s_attr, sa1_ok,
  sa1_ex, sa2_ok, s_aug, au1_s, au2_add, au2_sub, s_ife, if1_ok, if1_ex, ifB_t, ifB_f, s_for,
  fo1_ok, fo1_ex, foA_s, foB_nx, foB_ct, foB_bk, foB_rt, foB_ex, s_whl, wh1_ok, whB_t, whB_f,
  whC_nx, whC_ct, whC_bk, whC_rt, s_ret, rt1_ok, rt1_ex, s_retN, s_raise, rz1_ok, rz1_ex, s_try,
  tryK_nx, tryK_rt, tryK_bk, tryK_ct, tryK_ex, s_pass, s_brk, s_cnt, h_nil, h_cons, hdB_f, hdB_s,
  hdB_n, hdE_nx, hdE_bk, hdE_ct, hdE_rt, hdN_nx, hdN_bk, hdN_ct, hdN_rt, fin_rt, fin_nx, fin_ex,
  gc_id, gcX_id, tr_bl, tr_int, tr_non, tr_tup, tr_flst, newT_ok, newL_ok, newT_0, newL_0, newT_1,
  newT_2, newT_3, b_add, b_sub, b_mod, b_addT, b_addO, addO_l, cm_eq, cm_ne, cp_eq, cp_ne,
  cm_in, cm_notin, cm_lt, cm_le, cm_gt, cm_ge, cm_is, cm_isnot, cm_isb, cm_isnotb, cp_lt, cp_le,
  cp_gt, cp_ge, in_non, in_int, in_bl, in_tup, in_flst, in_str, in_obj, in_ins, pu_non, pu_int,
  pu_bl, pu_str, pu_tup, pu_flst, pus_nil, pus_cons, ve_int, ve_str, ve_bl, ve_non, ve_tup, ve_flst,
  vs_nil, vs_cons, vs_nc, vs_cn, ve_nt_i, ve_nt_b, ve_nt_s, ve_nt_t, ve_nt_l, ve_i_n, ve_i_s, ve_i_t,
  ve_i_l, ve_i_b, ve_b_i, ve_b_n, ve_b_s, ve_b_t, ve_b_l, ve_s_n, ve_s_i, ve_s_b, ve_s_t, ve_s_l,
  ve_t_n, ve_t_i, ve_t_b, ve_t_s, ve_t_l, ve_l_n, ve_l_i, ve_l_b, ve_l_s, ve_l_t, vm_nil, vm_cons,
  ty_int, ty_bl, ty_non, ty_str, ty_tup, ty_flst, ty_own, ty_insl, ty_inst, ty_insi, ty_insb, ty_inss,
  ty_obj, tyO_l, tyO_own, tyO_il, tyO_it, tyO_ii, tyO_ib, tyO_is, at_0, at_1, at_2, at_3,
  at_4, ixN_0, ixN_1, ixN_2, ixN_3, ix_tup, ix_flst, ix_obj, ixO_l, bl_abs, bl_int, bl_intb,
  bl_lenT, bl_lenF, bl_lenO, lenO_l, bl_tupT, bl_tupF, bl_tupO, tupO_l, bl_lstO, lstO_l, bl_lstT, bl_lstF,
  bl_min2, bl_max2, il_obj, ilO_l, lm_obj, lmO_app, lmO_pop, setL_ok, stm_tup, stm_flst, stm_obj, stmO_l,
  wt_nil, wt_cons, wtO_l, if_t, if_f, lg_hit, lg_miss, attrOf_obj, atO_i, tr_obj, trO_l, sub_obj,
  subO_l, subI_s, rg_1, rg_2, sg_app, sg_app0, ss_app, ss_app0, sl_app, gc_c2, gcX_c2, gc_db,
  gc_di, gc_dn, gc_ds, if_true, if_false, decide_true, decide_false, Bool.not_true, Bool.not_false, Bool.true_and, Bool.and_true, Bool.false_and,
  Bool.and_false, Bool.or_true, Bool.true_or, Bool.or_false, Bool.false_or, Bool.not_not, List.getElem?_cons_zero, List.getElem?_cons_succ, List.set_cons_zero, List.set_cons_succ, List.length_cons, List.length_nil,
  List.nil_append, List.cons_append, List.append_nil, List.append_assoc, List.isEmpty_cons, List.isEmpty_nil, List.any_cons, List.any_nil, sizeOk_le, Nat.reduceAdd, Nat.reduceLeDiff, Nat.reduceLT,
  Nat.reduceEqDiff, Nat.reduceBEq, Nat.zero_add, Nat.add_zero, Nat.reduceBneDiff, Nat.reduceSub, Nat.reduceMul, Int.reduceEq, Int.reduceLT, Int.reduceLE, Int.reduceNe, Int.reduceAdd,
  Int.reduceSub, Int.reduceMul, Int.reduceNeg, Int.reduceToNat, Int.reduceMod, ne_eq, not_true_eq_false, not_false_eq_true, Int.cast_ofNat_Int, Int.reduceNegSucc, $ls,*])
/-! Whole numbers, kinds, the common divisor. -/
theorem whole_i {n a st} : callN T (n + 1) 0 [.int a, .non, .non] st = .ok (.bl true) st := by
  simp! [c_is_whole, b_is_whole]
theorem whole_il {n a l st} : callN T (n + 1) 0 [.int a, .int l, .non] st = .ok (.bl (decide (l ≤ a))) st := by
  by_cases h : a < l
  · simp! [c_is_whole, b_is_whole, h, Int.not_le.mpr h]
  · simp! [c_is_whole, b_is_whole, h, Int.not_lt.mp h]
theorem whole_ih {n a l st} : callN T (n + 1) 0 [.int a, .non, .int l] st = .ok (.bl (decide (a ≤ l))) st := by
  simp! [c_is_whole, b_is_whole]
theorem whole_ilh {n a l m st} : callN T (n + 1) 0 [.int a, .int l, .int m] st = .ok (.bl (decide (l ≤ a) && decide (a ≤ m))) st := by
  by_cases h : a < l
  · simp! [c_is_whole, b_is_whole, h, Int.not_le.mpr h]
  · simp! [c_is_whole, b_is_whole, h, Int.not_lt.mp h]
theorem whole_b {n p x y st} : callN T (n + 1) 0 [.bl p, x, y] st = .ok (.bl false) st := by
  simp! [c_is_whole, b_is_whole]
theorem whole_s {n s x y st} : callN T (n + 1) 0 [.str s, x, y] st = .ok (.bl false) st := by
  simp! [c_is_whole, b_is_whole]
theorem whole_n {n x y st} : callN T (n + 1) 0 [.non, x, y] st = .ok (.bl false) st := by
  simp! [c_is_whole, b_is_whole]
theorem whole_t {n xs x y st} : callN T (n + 1) 0 [.tup xs, x, y] st = .ok (.bl false) st := by
  simp! [c_is_whole, b_is_whole]
theorem whole_l {n xs x y st} : callN T (n + 1) 0 [.flst xs, x, y] st = .ok (.bl false) st := by
  simp! [c_is_whole, b_is_whole]
theorem whole_o {n k xs x y} {st : Store} (h : st[k]? = some (.lst xs)) : callN T (n + 1) 0 [.obj k, x, y] st = .ok (.bl false) st := by
  simp! [c_is_whole, b_is_whole, h]
theorem seq_t {n xs st} : callN T (n + 1) 1 [.tup xs] st = .ok (.bl true) st := by
  simp! [c_is_sequence, b_is_sequence]
theorem seq_l {n xs st} : callN T (n + 1) 1 [.flst xs] st = .ok (.bl true) st := by
  simp! [c_is_sequence, b_is_sequence]
theorem seq_o {n k xs} {st : Store} (h : st[k]? = some (.lst xs)) : callN T (n + 1) 1 [.obj k] st = .ok (.bl true) st := by
  simp! [c_is_sequence, b_is_sequence, h]
theorem seq_i {n a st} : callN T (n + 1) 1 [.int a] st = .ok (.bl false) st := by
  simp! [c_is_sequence, b_is_sequence]
theorem seq_b {n a st} : callN T (n + 1) 1 [.bl a] st = .ok (.bl false) st := by
  simp! [c_is_sequence, b_is_sequence]
theorem seq_s {n a st} : callN T (n + 1) 1 [.str a] st = .ok (.bl false) st := by
  simp! [c_is_sequence, b_is_sequence]
theorem seq_n {n st} : callN T (n + 1) 1 [.non] st = .ok (.bl false) st := by
  simp! [c_is_sequence, b_is_sequence]

end Lk00

set_option Elab.async false
set_option linter.all false
set_option maxRecDepth 100000
/-! Plain facts: whole numbers, fractions. -/
namespace Pl
theorem abs_if {a : Int} : (if a < 0 then -a else a) = (a.natAbs : Int) := by split <;> omega
theorem gcd_step {l h : Int} (hl : 0 < l) (hh : 0 ≤ h) : Int.gcd (h % l) l = Int.gcd l h := by
  obtain ⟨m, rfl⟩ := Int.eq_ofNat_of_zero_le (Int.le_of_lt hl)
  obtain ⟨n, rfl⟩ := Int.eq_ofNat_of_zero_le hh
  rw [← Int.natCast_emod, Int.gcd_natCast_natCast, Int.gcd_natCast_natCast, ← Nat.gcd_rec]
theorem mod_half {l h : Int} (hl : 0 < l) (hr : 0 < h % l) : 2 * (l % (h % l)) < l := by
  have h1 := Int.emod_lt_of_pos h hl
  have h2 := Int.emod_lt_of_pos l hr
  have h3 := Int.emod_nonneg l (Int.ne_of_gt hr)
  generalize h % l = r at *
  by_cases hle : 2 * r ≤ l
  · omega
  · have e : l % r = l - r := by
      rw [← Int.sub_emod_right]
      exact Int.emod_eq_of_lt (by omega) (by omega)
    omega
theorem natAbs_lt_of {a : Int} {m : Nat} (h1 : -(2 ^ m : Int) < a) (h2 : a < 2 ^ m) : a.natAbs < 2 ^ m := by
  have : ((2 ^ m : Nat) : Int) = 2 ^ m := by norm_cast
  omega
end Pl
namespace Pl
theorem gcd_lt {a b : Int} {k : Nat} (h : b ≠ 0) (hb : b.natAbs < 2 ^ k) : Int.gcd a b < 2 ^ k := by
  have : Int.gcd a b ≤ b.natAbs := Int.gcd_le_natAbs_right _ h
  omega
end Pl

set_option Elab.async false
set_option linter.all false
set_option maxRecDepth 100000
set_option maxHeartbeats 4000000
namespace Lk00
open Ev Sg
open PySem (Str)
local macro_rules | `(tactic| simp! [$ls,*]) => `(tactic| simp -implicitDefEqProofs only [
  e_var, vK_s, e_cst, e_bin, bin1_ok, bin2_ok, bin1_ex, bin2_ex, e_neg, neg1_ok, neg1_ex, e_nt,
  nt1_ok, nt1_ex, ntB_s, e_and, and1_ok, and1_ex, andB_t, andB_f, e_or, or1_ok, or1_ex, orB_t,
  orB_f, e_cmp, cmp1_ok, cmp2_ok, cmp1_ex, cmp2_ex, e_cmpD, cmD1_ok, cmD2_ok, cmD1_ex, cmD2_ex, e_chain,
  ch1_ok, ch2_ok, ch3_ok, chB_t, chB_f, ch4_ok, e_ite, ite1_ok, ite1_ex, iteB_t, iteB_f, e_tup,
  tup1_ok, tup1_ex, e_lst, lst1_ok, lst1_ex, es_nil, es_cons, es1_ok, es2_ok, es1_ex, es2_ex, e_call,
  call1_ok, call1_ex, pick_nil, pick_cons, pick1_s, e_callB, callb1_ok, callb1_ex, callb2_s, e_make, make1_ok, make1_ex,
  e_meth, meth1_ok, meth1_ex, methB_s, meth2_ok, meth2_ex, e_attr, attr1_ok, attr1_ex, attrOf_ins, opt_s, e_ix,
  ix1_ok, ix2_ok, ix1_ex, ix2_ex, e_slc, sl1_ok, sl2_ok, sl3_ok, slH_t, slH_f, prt_i, e_rslc,
  rsl1_ok, e_blt, blt_1_ok, blt_1_ex, e_lm, lm1_ok, lm1_ex, lmB_t, lm2_ok, lm2_ex, e_isin, is1_ok,
  is1_ex, isB1_s, ist_nil, ist_cons, istK_t, istK_f, e_xat, e_xis, ext_nil, ext_own, ext_verr, i_rng,
  rng1_ok, rng1_ex, rngK_s, i_revr, rvr1_ok, rvrK_s, i_seq, seqI1_ok, seqI1_ex, i_enm, enm1_ok, enmK_s,
  i_rev, rev1_ok, revK_s, i_zip, zip1_ok, zip2_ok, cpE_ok, e_comp, cp1_ok, cp1_ex, e_comp2, cp2_1_ok,
  cbE_ok, e_bltC, cb1_ok, cb1_ex, e_bltI, bi1_ok, t_nil, t_cons, ts1_ok, tsK_t, tsK_f, cpD_ok,
  cpC_ok, cpB_t, cpB_f, cpA_s, ss_nil, ss_cons, seqK_nx, seqK_rt, seqK_bk, seqK_ct, seqK_ex, s_expr,
  sExpr_ok, sExpr_ex, s_set, sSet_ok, sSet_ex, sFr_s, s_setT, sSetT_ok, sSetT_ex, asg_nm, asg_tp, sa_nil,
  sa_cons, s_par, sPar_ok, sPar_ex, sSt_s, s_sub, sb1_ok, sb1_ex, sb2_ok, sb3_ok, s_attr, sa1_ok,
  sa1_ex, sa2_ok, s_aug, au1_s, au2_add, au2_sub, s_ife, if1_ok, if1_ex, ifB_t, ifB_f, s_for,
  fo1_ok, fo1_ex, foA_s, foB_nx, foB_ct, foB_bk, foB_rt, foB_ex, s_whl, wh1_ok, whB_t, whB_f,
  whC_nx, whC_ct, whC_bk, whC_rt, s_ret, rt1_ok, rt1_ex, s_retN, s_raise, rz1_ok, rz1_ex, s_try,
  tryK_nx, tryK_rt, tryK_bk, tryK_ct, tryK_ex, s_pass, s_brk, s_cnt, h_nil, h_cons, hdB_f, hdB_s,
  hdB_n, hdE_nx, hdE_bk, hdE_ct, hdE_rt, hdN_nx, hdN_bk, hdN_ct, hdN_rt, fin_rt, fin_nx, fin_ex,
  gc_id, gcX_id, tr_bl, tr_int, tr_non, tr_tup, tr_flst, newT_ok, newL_ok, newT_0, newL_0, newT_1,
  newT_2, newT_3, b_add, b_sub, b_mod, b_addT, b_addO, addO_l, cm_eq, cm_ne, cp_eq, cp_ne,
  cm_in, cm_notin, cm_lt, cm_le, cm_gt, cm_ge, cm_is, cm_isnot, cm_isb, cm_isnotb, cp_lt, cp_le,
  cp_gt, cp_ge, in_non, in_int, in_bl, in_tup, in_flst, in_str, in_obj, in_ins, pu_non, pu_int,
  pu_bl, pu_str, pu_tup, pu_flst, pus_nil, pus_cons, ve_int, ve_str, ve_bl, ve_non, ve_tup, ve_flst,
  vs_nil, vs_cons, vs_nc, vs_cn, ve_nt_i, ve_nt_b, ve_nt_s, ve_nt_t, ve_nt_l, ve_i_n, ve_i_s, ve_i_t,
  ve_i_l, ve_i_b, ve_b_i, ve_b_n, ve_b_s, ve_b_t, ve_b_l, ve_s_n, ve_s_i, ve_s_b, ve_s_t, ve_s_l,
  ve_t_n, ve_t_i, ve_t_b, ve_t_s, ve_t_l, ve_l_n, ve_l_i, ve_l_b, ve_l_s, ve_l_t, vm_nil, vm_cons,
  ty_int, ty_bl, ty_non, ty_str, ty_tup, ty_flst, ty_own, ty_insl, ty_inst, ty_insi, ty_insb, ty_inss,
  ty_obj, tyO_l, tyO_own, tyO_il, tyO_it, tyO_ii, tyO_ib, tyO_is, at_0, at_1, at_2, at_3,
  at_4, ixN_0, ixN_1, ixN_2, ixN_3, ix_tup, ix_flst, ix_obj, ixO_l, bl_abs, bl_int, bl_intb,
  bl_lenT, bl_lenF, bl_lenO, lenO_l, bl_tupT, bl_tupF, bl_tupO, tupO_l, bl_lstO, lstO_l, bl_lstT, bl_lstF,
  bl_min2, bl_max2, il_obj, ilO_l, lm_obj, lmO_app, lmO_pop, setL_ok, stm_tup, stm_flst, stm_obj, stmO_l,
  wt_nil, wt_cons, wtO_l, if_t, if_f, lg_hit, lg_miss, attrOf_obj, atO_i, tr_obj, trO_l, sub_obj,
  subO_l, subI_s, rg_1, rg_2, sg_app, sg_app0, ss_app, ss_app0, sl_app, gc_c2, gcX_c2, gc_db,
  gc_di, gc_dn, gc_ds, if_true, if_false, decide_true, decide_false, Bool.not_true, Bool.not_false, Bool.true_and, Bool.and_true, Bool.false_and,
  Bool.and_false, Bool.or_true, Bool.true_or, Bool.or_false, Bool.false_or, Bool.not_not, List.getElem?_cons_zero, List.getElem?_cons_succ, List.set_cons_zero, List.set_cons_succ, List.length_cons, List.length_nil,
  List.nil_append, List.cons_append, List.append_nil, List.append_assoc, List.isEmpty_cons, List.isEmpty_nil, List.any_cons, List.any_nil, sizeOk_le, Nat.reduceAdd, Nat.reduceLeDiff, Nat.reduceLT,
  Nat.reduceEqDiff, Nat.reduceBEq, Nat.zero_add, Nat.add_zero, Nat.reduceBneDiff, Nat.reduceSub, Nat.reduceMul, Int.reduceEq, Int.reduceLT, Int.reduceLE, Int.reduceNe, Int.reduceAdd,
  Int.reduceSub, Int.reduceMul, Int.reduceNeg, Int.reduceToNat, Int.reduceMod, ne_eq, not_true_eq_false, not_false_eq_true, Int.cast_ofNat_Int, Int.reduceNegSucc, $ls,*])
open Pl
/-! The common divisor, fractions. -/
theorem cd_loop {n : Nat} {x0 x1 : PV} {st : Store} : ∀ (k fuel : Nat) (l h : Int), 0 ≤ l → 0 ≤ h → l.natAbs < 2 ^ k → 2 * k + 1 ≤ fuel →
    whK (Gd T n none) w_common_divisor_1 l_common_divisor_1 fuel [some x0, some x1, some (.int l), some (.int h)] st = .nx [some x0, some x1, some (.int 0), some (.int (Int.gcd l h))] st
  | k, 0, l, h, h1, h2, h3, h4 => by omega
  | k, fuel + 1, l, h, h1, h2, h3, h4 => by
    by_cases hz : l = 0
    · subst hz
      simp! [wh_succ, uw_common_divisor_1, Int.zero_gcd]
      rw [Int.natAbs_of_nonneg h2]
    · have hl : 0 < l := by omega
      have hne : (decide (l = 0)) = false := decide_eq_false hz
      simp! [wh_succ, uw_common_divisor_1, ul_common_divisor_1, hne, hl]
      have hr0 := Int.emod_nonneg h (Int.ne_of_gt hl)
      match k, fuel, h3, h4 with
      | 0, _, h3, _ => omega
      | k + 1, 0, _, h4 => omega
      | k + 1, fuel + 1, h3, h4 =>
        by_cases hr : h % l = 0
        · rw [hr]
          simp! [wh_succ, uw_common_divisor_1]
          rw [← gcd_step hl h2, hr, Int.zero_gcd, Int.natAbs_of_nonneg h1]
        · have hrp : 0 < h % l := by omega
          have hne2 : (decide (h % l = 0)) = false := decide_eq_false hr
          simp! [wh_succ, uw_common_divisor_1, ul_common_divisor_1, hne2, hrp]
          have hq0 := Int.emod_nonneg l (Int.ne_of_gt hrp)
          have hh := mod_half hl hrp
          rw [cd_loop k fuel (l % (h % l)) (h % l) hq0 hr0 (by rw [Nat.pow_succ] at h3; omega) (by omega), gcd_step hrp h1, gcd_step hl h2]
theorem cd_ok {n a b st k} (ha : a.natAbs < 2 ^ k) (hk : k ≤ 1000000 := by omega) : callN T (n + 1) 2 [.int a, .int b] st = .ok (.int (Int.gcd a b)) st := by
  simp! [c_common_divisor, b_common_divisor, abs_if, cd_loop k whlFuel (a.natAbs : Int) (b.natAbs : Int) (by omega) (by omega) (by omega) (by unfold whlFuel; omega)]
  rw [Int.gcd_natCast_natCast]; rfl

end Lk00

set_option Elab.async false
set_option linter.all false
set_option maxRecDepth 100000
set_option maxHeartbeats 2000000
/-! The figures: fractions and rests by a prime, as one kind of field. -/
namespace Pl
open Ev Sg
open Lean.Grind
theorem fdiv_mul {K : Type} [Field K] {a b : K} (h : b ≠ 0) : a / b * b = a := by grind
theorem mul_emod_e (a b p : Int) : a * (b % p) % p = a * b % p := by rw [Int.mul_emod, Int.emod_emod_of_dvd _ (Int.dvd_refl p), ← Int.mul_emod]
/-! ### rests -/
class Pr (p : Nat) : Prop where
  pos : 0 < p
  two : 2 ≤ p
  le : p ≤ 13
  inv : ∀ x : Fin p, x.val ≠ 0 → (x.val * (x.val ^ (p - 2) % p)) % p = 1
instance : Pr 2 := ⟨by decide, by decide, by decide, by decide⟩
instance : Pr 3 := ⟨by decide, by decide, by decide, by decide⟩
instance : Pr 5 := ⟨by decide, by decide, by decide, by decide⟩
instance : Pr 7 := ⟨by decide, by decide, by decide, by decide⟩
instance : Pr 11 := ⟨by decide, by decide, by decide, by decide +kernel⟩
instance : Pr 13 := ⟨by decide, by decide, by decide, by decide +kernel⟩
instance (p : Nat) [h : Pr p] : NeZero p := ⟨by have := h.pos; omega⟩
structure Zp (p : Nat) where
  v : Nat
  lt : v < p
  deriving DecidableEq
namespace Zp
variable {p : Nat} [hp : Pr p]
theorem ext' {x y : Zp p} (h : x.v = y.v) : x = y := by cases x; cases y; cases h; rfl
def mk' (a : Nat) : Zp p := ⟨a % p, Nat.mod_lt _ hp.pos⟩
def inv (x : Zp p) : Zp p := if x.v = 0 then ⟨0, hp.pos⟩ else mk' (x.v ^ (p - 2))
def npow (x : Zp p) : Nat → Zp p
  | 0 => mk' 1
  | n + 1 => mk' ((npow x n).v * x.v)
def neg (x : Zp p) : Zp p := mk' (p - x.v)
def zpow (x : Zp p) : Int → Zp p
  | .ofNat n => npow x n
  | .negSucc n => inv (npow x (n + 1))
theorem mod_self (x : Zp p) : x.v % p = x.v := Nat.mod_eq_of_lt x.lt
instance : Add (Zp p) := ⟨fun x y => mk' (x.v + y.v)⟩
instance : Mul (Zp p) := ⟨fun x y => mk' (x.v * y.v)⟩
instance : Neg (Zp p) := ⟨neg⟩
instance : Sub (Zp p) := ⟨fun x y => mk' (x.v + (p - y.v))⟩
instance : Inv (Zp p) := ⟨inv⟩
instance : Div (Zp p) := ⟨fun x y => x * inv y⟩
instance : NatCast (Zp p) := ⟨mk'⟩
instance (n : Nat) : OfNat (Zp p) n := ⟨mk' n⟩
instance : IntCast (Zp p) := ⟨fun i => match i with
  | .ofNat n => mk' n
  | .negSucc n => -(mk' (n + 1) : Zp p)⟩
instance : SMul Nat (Zp p) := ⟨fun n x => (n : Zp p) * x⟩
instance : SMul Int (Zp p) := ⟨fun n x => (n : Zp p) * x⟩
instance : HPow (Zp p) Nat (Zp p) := ⟨npow⟩
instance : HPow (Zp p) Int (Zp p) := ⟨zpow⟩
theorem v_add {x y : Zp p} : (x + y).v = (x.v + y.v) % p := rfl
theorem v_mul {x y : Zp p} : (x * y).v = (x.v * y.v) % p := rfl
theorem v_neg {x : Zp p} : (-x).v = (p - x.v) % p := rfl
theorem v_sub {x y : Zp p} : (x - y).v = (x.v + (p - y.v)) % p := rfl
theorem v_0 : (0 : Zp p).v = 0 := Nat.zero_mod p
theorem v_1 : (1 : Zp p).v = 1 := by
  have := hp.two
  show 1 % p = 1
  exact Nat.mod_eq_of_lt (by omega)
theorem v_of {n : Nat} : (OfNat.ofNat n : Zp p).v = n % p := rfl
theorem v_nc {n : Nat} : (Nat.cast n : Zp p).v = n % p := rfl
theorem v_npow {x : Zp p} : ∀ {n : Nat}, (x ^ n).v = x.v ^ n % p
  | 0 => rfl
  | n + 1 => by
    show (npow x n).v * x.v % p = _
    have e : (npow x n).v = x.v ^ n % p := v_npow (n := n)
    rw [e, Nat.pow_succ, Nat.mod_mul_mod]
theorem mul_inv {x : Zp p} (h : x ≠ 0) : x * x⁻¹ = 1 := by
  have hx : x.v ≠ 0 := fun e => h (ext' (by rw [e, v_0]))
  apply ext'
  rw [v_mul, v_1]
  show (x.v * (inv x).v) % p = 1
  unfold inv
  rw [if_neg hx]
  exact hp.inv ⟨x.v, x.lt⟩ hx
theorem neg_add (x : Zp p) : -x + x = 0 := by
  apply ext'
  have := x.lt
  rw [v_add, v_neg, v_0, Nat.mod_add_mod, Nat.sub_add_cancel (by omega), Nat.mod_self]
theorem add_comm' (a b : Zp p) : a + b = b + a := ext' (by rw [v_add, v_add, Nat.add_comm])
theorem mul_comm' (a b : Zp p) : a * b = b * a := ext' (by rw [v_mul, v_mul, Nat.mul_comm])
theorem neg_uniq {x y : Zp p} (h : y + x = 0) : y = -x := by
  apply ext'
  have h1 : (y.v + x.v) % p = 0 := by have := congrArg Zp.v h; rwa [v_add, v_0] at this
  have := x.lt
  have := y.lt
  rw [v_neg]
  by_cases hx : x.v = 0
  · rw [hx, Nat.sub_zero, Nat.mod_self]
    rw [hx, Nat.add_zero, Nat.mod_eq_of_lt y.lt] at h1
    exact h1
  · rw [Nat.mod_eq_of_lt (by omega)]
    have : y.v + x.v = p := by
      by_cases h2 : y.v + x.v < p
      · rw [Nat.mod_eq_of_lt h2] at h1; omega
      · rw [Nat.mod_eq_sub_mod (by omega), Nat.mod_eq_of_lt (by omega)] at h1
        omega
    omega
theorem ic_neg (i : Int) : ((-i : Int) : Zp p) = -((i : Int) : Zp p) := by
  match i with
  | .ofNat 0 =>
    apply ext'
    show (0 : Zp p).v = (-(0 : Zp p)).v
    rw [v_neg, v_0, Nat.sub_zero, Nat.mod_self]
  | .ofNat (n + 1) => rfl
  | .negSucc n =>
    show (mk' (n + 1) : Zp p) = -(-(mk' (n + 1)))
    exact neg_uniq (by rw [add_comm']; exact neg_add _)
theorem neg_mul' (a b : Zp p) : -a * b = -(a * b) := by
  apply neg_uniq
  apply ext'
  have := a.lt
  rw [v_add, v_mul, v_mul, v_neg, v_0, Nat.mod_mul_mod, ← Nat.add_mod, ← Nat.add_mul, Nat.sub_add_cancel (by omega), Nat.mul_mod_right]
instance : Field (Zp p) where
  add_zero a := ext' (by rw [v_add, v_0, Nat.add_zero, mod_self])
  add_comm := add_comm'
  add_assoc a b c := ext' (by rw [v_add, v_add, v_add, v_add, Nat.mod_add_mod, Nat.add_mod_mod, Nat.add_assoc])
  mul_assoc a b c := ext' (by rw [v_mul, v_mul, v_mul, v_mul, Nat.mod_mul_mod, Nat.mul_mod_mod, Nat.mul_assoc])
  mul_one a := ext' (by rw [v_mul, v_1, Nat.mul_one, mod_self])
  one_mul a := ext' (by rw [v_mul, v_1, Nat.one_mul, mod_self])
  left_distrib a b c := ext' (by rw [v_mul, v_add, v_add, v_mul, v_mul, Nat.mul_mod_mod, ← Nat.add_mod, Nat.mul_add])
  right_distrib a b c := ext' (by rw [v_mul, v_add, v_add, v_mul, v_mul, Nat.mod_mul_mod, ← Nat.add_mod, Nat.add_mul])
  zero_mul a := ext' (by rw [v_mul, v_0, Nat.zero_mul, Nat.zero_mod])
  mul_zero a := ext' (by rw [v_mul, v_0, Nat.mul_zero, Nat.zero_mod])
  pow_zero a := rfl
  pow_succ a n := rfl
  ofNat_succ a := ext' (by rw [v_add, v_of, v_of, v_1, Nat.mod_add_mod])
  ofNat_eq_natCast n := rfl
  nsmul_eq_natCast_mul n a := rfl
  neg_add_cancel := neg_add
  sub_eq_add_neg a b := ext' (by rw [v_sub, v_add, v_neg, Nat.add_mod_mod])
  neg_zsmul i a := by
    show ((-i : Int) : Zp p) * a = -(((i : Int) : Zp p) * a)
    rw [ic_neg, neg_mul']
  zsmul_natCast_eq_nsmul n a := rfl
  intCast_ofNat n := rfl
  intCast_neg := ic_neg
  mul_comm := mul_comm'
  div_eq_mul_inv a b := rfl
  zero_ne_one h := by
    have := congrArg Zp.v h
    rw [v_0, v_1] at this
    cases this
  inv_zero := by
    show inv (0 : Zp p) = 0
    unfold inv
    rw [if_pos v_0]
    exact ext' v_0.symm
  mul_inv_cancel := mul_inv
  zpow_zero a := rfl
  zpow_succ a n := rfl
  zpow_neg a n := by
    have hi : ∀ x : Zp p, (x⁻¹)⁻¹ = x := fun x => by
      by_cases h : x = 0
      · subst h
        have : (0 : Zp p)⁻¹ = 0 := by
          show inv (0 : Zp p) = 0
          unfold inv
          rw [if_pos v_0]
          exact ext' v_0.symm
        rw [this, this]
      · have h2 : x⁻¹ ≠ 0 := fun e => by
          have := mul_inv h
          rw [e] at this
          have := congrArg Zp.v this
          rw [v_mul, v_0, Nat.mul_zero, Nat.zero_mod, v_1] at this
          cases this
        have e1 := mul_inv h2
        have e0 := mul_inv h
        apply ext'
        have k1 : (x * x⁻¹) * (x⁻¹)⁻¹ = x * (x⁻¹ * (x⁻¹)⁻¹) := ext' (by rw [v_mul, v_mul, v_mul, v_mul, Nat.mod_mul_mod, Nat.mul_mod_mod, Nat.mul_assoc])
        rw [e0, e1] at k1
        have := congrArg Zp.v k1
        rwa [v_mul, v_mul, v_1, Nat.one_mul, Nat.mul_one, mod_self, mod_self] at this
    match n with
    | .ofNat 0 =>
      show npow a 0 = (npow a 0)⁻¹
      apply ext'
      show (mk' 1 : Zp p).v = (inv (mk' 1 : Zp p)).v
      have h1 : (mk' 1 : Zp p) = 1 := rfl
      rw [h1]
      have e := mul_inv (x := (1 : Zp p)) (fun h => by
        have := congrArg Zp.v h
        rw [v_0, v_1] at this
        cases this)
      have := congrArg Zp.v e
      rw [v_mul, v_1, Nat.one_mul, mod_self] at this
      rw [v_1]
      exact this.symm
    | .ofNat (n + 1) => rfl
    | .negSucc n => exact (hi _).symm
theorem v_inv {x : Zp p} (h : x.v ≠ 0) : (x⁻¹).v = x.v ^ (p - 2) % p := by
  show (inv x).v = _
  unfold inv
  rw [if_neg h]
  rfl
end Zp
/-! ### both kinds -/
class FK (K : Type) extends Field K where
  dec : DecidableEq K
  pr : Int
  enc : K → PV
  sz : Nat → K → Prop
  enc_pur : ∀ (x : K) n, pur (n + 2) (enc x) = true
  enc_eq : ∀ x y : K, veq (enc x) (enc y) = decide (x = y)
  sz_mono : ∀ {x : K} {j k : Nat}, j ≤ k → sz j x → sz k x
  sz_0 : sz 1 (0 : K)
  sz_1 : sz 1 (1 : K)
  sz_add : ∀ {x y : K} {j k : Nat}, sz j x → sz k y → sz (j + k + 1) (x + y)
  sz_neg : ∀ {x : K} {k : Nat}, sz k x → sz k (-x)
  sz_mul : ∀ {x y : K} {j k : Nat}, sz j x → sz k y → sz (j + k) (x * y)
  sz_inv : ∀ {x : K} {k : Nat}, sz k x → sz k (x⁻¹)
  isn : PV → Bool
  isn_iff : ∀ v, isn v = true ↔ ∃ x : K, enc x = v
  /-- -1, 0, 1 -/
  cmp : K → K → Int
  ofInt : Int → K
  ofInt_eq : ∀ i : Int, ofInt i = (i : K)
theorem rat_inj {a b : Rat} : (PV.tup [.int a.num, .int (a.den : Int)] = .tup [.int b.num, .int (b.den : Int)]) → a = b := fun h => by
  injection h with h
  injection h with h1 h2
  injection h2 with h2 _
  injection h1 with h1
  injection h2 with h2
  exact Rat.ext h1 (by omega)
instance {K} [h : FK K] : DecidableEq K := h.dec
instance zpFK (p : Nat) [hp : Pr p] : FK (Zp p) where
  dec := inferInstance
  pr := p
  enc x := .int x.v
  sz _ _ := True
  enc_pur x n := by rw [pur] <;> intros <;> contradiction
  enc_eq x y := by
    rw [ve_int]
    by_cases h : x = y
    · subst h; simp
    · have : ¬ ((x.v : Int) = y.v) := fun e => h (Zp.ext' (by omega))
      rw [decide_eq_false this, decide_eq_false h]
  sz_mono _ _ := trivial
  sz_0 := trivial
  sz_1 := trivial
  sz_add _ _ := trivial
  sz_neg _ := trivial
  sz_mul _ _ := trivial
  sz_inv _ := trivial
  isn v := match v with
    | .int i => decide (0 ≤ i) && decide (i ≤ (p : Int) - 1)
    | _ => false
  isn_iff v := by
    constructor
    · intro h
      cases v with
      | int i =>
        simp only [Bool.and_eq_true, decide_eq_true_eq] at h
        obtain ⟨h1, h2⟩ := h
        exact ⟨⟨i.toNat, by omega⟩, by show PV.int ((i.toNat : Nat) : Int) = _; rw [Int.toNat_of_nonneg h1]⟩
      | _ => cases h
    · rintro ⟨x, rfl⟩
      have := x.lt
      simp only [Bool.and_eq_true, decide_eq_true_eq]
      omega
  cmp x y := if (x.v : Int) < y.v then -1 else if (y.v : Int) < x.v then 1 else 0
  ofInt i := Zp.mk' (i % p).toNat
  ofInt_eq i := by
    apply Zp.ext'
    have hp0 : (0 : Int) < p := by have := hp.pos; omega
    show (i % p).toNat % p = _
    match i with
    | .ofNat n =>
      show ((n : Int) % (p : Int)).toNat % p = n % p
      rw [← Int.natCast_emod, Int.toNat_natCast, Nat.mod_mod]
    | .negSucc n =>
      show _ = (-(Zp.mk' (n + 1) : Zp p)).v
      rw [Zp.v_neg]
      show _ = (p - (n + 1) % p) % p
      rw [Int.negSucc_emod _ hp0]
      have h1 : (n : Int) % (p : Int) = ((n % p : Nat) : Int) := (Int.natCast_emod n p).symm
      have h2 := Nat.mod_lt n hp.pos
      have h3 : (n + 1) % p = if n % p + 1 = p then 0 else n % p + 1 := by
        rw [Nat.add_mod]
        by_cases hp1 : n % p + 1 = p
        · rw [if_pos hp1, Nat.mod_eq_of_lt (a := 1) (by have := hp.two; omega), hp1, Nat.mod_self]
        · rw [if_neg hp1, Nat.mod_eq_of_lt (a := 1) (by have := hp.two; omega), Nat.mod_eq_of_lt (by omega)]
      rw [h1, h3]
      split
      · have : ((p : Int) - 1 - ((n % p : Nat) : Int)).toNat = 0 := by omega
        rw [Int.sub_sub, Int.add_comm 1, ← Int.sub_sub] at *
        simp only [Nat.sub_zero, Nat.mod_self]
        have e : ((p : Int) - 1 - ((n % p : Nat) : Int)).toNat = 0 := by omega
        have e2 : ((p : Int) - ((n % p : Nat) : Int) - 1).toNat = 0 := by omega
        first | rw [e] | rw [e2]
        exact Nat.zero_mod p
      · have e : ((p : Int) - 1 - ((n % p : Nat) : Int)).toNat = p - (n % p + 1) := by omega
        first
          | rw [e]
          | (rw [show ((p : Int) - (((n % p : Nat) : Int) + 1)).toNat = p - (n % p + 1) by omega])
/-! ### fractions -/
def rat (q : Rat) : PV := .tup [.int q.num, .int (q.den : Int)]
def Sz (k : Nat) (q : Rat) : Prop := q.num.natAbs < 2 ^ k ∧ q.den < 2 ^ k
theorem div_num_le (a b : Int) : (Rat.divInt a b).num.natAbs ≤ a.natAbs := by
  rw [Rat.num_divInt]
  rcases Int.lt_trichotomy b 0 with h | h | h
  · rw [Int.sign_eq_neg_one_of_neg h]
    have := Int.natAbs_ediv_le_natAbs (-1 * a) (b.gcd a)
    rw [Int.neg_one_mul, Int.natAbs_neg] at this
    rw [Int.neg_one_mul]; exact this
  · subst h; simp
  · rw [Int.sign_eq_one_of_pos h, Int.one_mul]
    exact Int.natAbs_ediv_le_natAbs a (b.gcd a)
theorem div_den_le (a b : Int) (h : b ≠ 0) : (Rat.divInt a b).den ≤ b.natAbs := by
  rw [Rat.den_divInt, if_neg h]
  exact Nat.div_le_self _ _
theorem Sz.div {a b : Int} {k : Nat} (ha : a.natAbs < 2 ^ k) (hb : b.natAbs < 2 ^ k) (h : b ≠ 0) : Sz k (Rat.divInt a b) :=
  ⟨Nat.lt_of_le_of_lt (div_num_le a b) ha, Nat.lt_of_le_of_lt (div_den_le a b h) hb⟩
theorem Sz.mono {q : Rat} {j k : Nat} (h : j ≤ k) (s : Sz j q) : Sz k q :=
  ⟨Nat.lt_of_lt_of_le s.1 (Nat.pow_le_pow_right (by decide) h), Nat.lt_of_lt_of_le s.2 (Nat.pow_le_pow_right (by decide) h)⟩
theorem mul_lt_pow {a b j k : Nat} (ha : a < 2 ^ j) (hb : b < 2 ^ k) : a * b < 2 ^ (j + k) := by
  rw [Nat.pow_add]
  exact Nat.mul_lt_mul'' ha hb
theorem add_lt_pow {a b k : Nat} (ha : a < 2 ^ k) (hb : b < 2 ^ k) : a + b < 2 ^ (k + 1) := by rw [Nat.pow_succ]; omega
theorem rat_add (a b : Rat) : a + b = Rat.divInt (a.num * b.den + b.num * a.den) (a.den * b.den) := by
  rw [Rat.add_def', show ((a.den : Int) * (b.den : Int)) = ((a.den * b.den : Nat) : Int) by norm_cast, Rat.divInt_ofNat]
theorem rat_sub (a b : Rat) : a - b = Rat.divInt (a.num * b.den - b.num * a.den) (a.den * b.den) := by
  rw [Rat.sub_def', show ((a.den : Int) * (b.den : Int)) = ((a.den * b.den : Nat) : Int) by norm_cast, Rat.divInt_ofNat]
theorem rat_mul (a b : Rat) : a * b = Rat.divInt (a.num * b.num) (a.den * b.den) := by
  rw [Rat.mul_def', show ((a.den : Int) * (b.den : Int)) = ((a.den * b.den : Nat) : Int) by norm_cast, Rat.divInt_ofNat]
theorem rat_div (a b : Rat) : a / b = Rat.divInt (a.num * b.den) (a.den * b.num) := by
  rw [Rat.div_def, Rat.inv_def]
  conv => lhs; rw [← Rat.num_divInt_den a]
  rw [Rat.divInt_mul_divInt]
theorem den_ne (a : Rat) : (a.den : Int) ≠ 0 := by have := a.den_nz; omega
theorem den_pos (a : Rat) : (0 : Int) < a.den := by have := a.den_nz; omega
theorem Sz.add {a b : Rat} {j k : Nat} (ha : Sz j a) (hb : Sz k b) : Sz (j + k + 1) (a + b) := by
  rw [rat_add]
  refine Sz.div ?_ ?_ (Int.mul_ne_zero (den_ne a) (den_ne b))
  · have h1 : (a.num * (b.den : Int)).natAbs < 2 ^ (j + k) := by rw [Int.natAbs_mul]; exact mul_lt_pow ha.1 hb.2
    have h2 : (b.num * (a.den : Int)).natAbs < 2 ^ (j + k) := by rw [Int.natAbs_mul, Nat.add_comm]; exact mul_lt_pow hb.1 ha.2
    exact Nat.lt_of_le_of_lt (Int.natAbs_add_le _ _) (add_lt_pow h1 h2)
  · rw [Int.natAbs_mul]
    exact Nat.lt_of_lt_of_le (mul_lt_pow ha.2 hb.2) (Nat.pow_le_pow_right (by decide) (by omega))
theorem Sz.neg {a : Rat} {k : Nat} (ha : Sz k a) : Sz k (-a) := ⟨by rw [Rat.neg_num, Int.natAbs_neg]; exact ha.1, by rw [Rat.neg_den]; exact ha.2⟩
theorem Sz.mul {a b : Rat} {j k : Nat} (ha : Sz j a) (hb : Sz k b) : Sz (j + k) (a * b) := by
  rw [rat_mul]
  refine Sz.div ?_ ?_ (Int.mul_ne_zero (den_ne a) (den_ne b))
  · rw [Int.natAbs_mul]; exact mul_lt_pow ha.1 hb.1
  · rw [Int.natAbs_mul]; exact mul_lt_pow ha.2 hb.2
theorem Sz.inv {a : Rat} {k : Nat} (ha : Sz k a) : Sz k (a⁻¹) := by
  refine ⟨?_, ?_⟩
  · rw [Rat.num_inv, Int.natAbs_mul]
    rcases Int.lt_trichotomy a.num 0 with h | h | h
    · rw [Int.sign_eq_neg_one_of_neg h]; simpa using ha.2
    · rw [h]; simpa using Nat.two_pow_pos k
    · rw [Int.sign_eq_one_of_pos h]; simpa using ha.2
  · rw [Rat.den_inv]
    split
    · exact Nat.lt_of_lt_of_le (Nat.lt_of_le_of_lt (Nat.one_le_iff_ne_zero.mpr a.den_nz) ha.2) (Nat.le_refl _)
    · exact ha.1
instance ratFK : FK Rat where
  dec := inferInstance
  pr := 0
  enc := rat
  sz := Sz
  enc_pur x n := by
    unfold rat
    rw [pu_tup, pus_cons, pus_cons, pus_nil, pu_int, pu_int]; rfl
  enc_eq x y := by
    unfold rat
    rw [ve_tup, vs_cons, vs_cons, vs_nil, ve_int, ve_int]
    by_cases h : x = y
    · subst h; simp
    · rw [decide_eq_false h]
      by_cases h1 : x.num = y.num
      · have : ¬ ((x.den : Int) = y.den) := fun e => h (Rat.ext h1 (by omega))
        rw [decide_eq_false this]; simp
      · rw [decide_eq_false h1]; rfl
  sz_mono := Sz.mono
  sz_0 := by constructor <;> decide
  sz_1 := by constructor <;> decide
  sz_add := Sz.add
  sz_neg := Sz.neg
  sz_mul := Sz.mul
  sz_inv := Sz.inv
  isn v := match v with
    | .tup [.int a, .int b] => decide (1 ≤ b) && decide (Int.gcd a b = 1)
    | _ => false
  isn_iff v := by
    constructor
    · intro h
      split at h
      · rename_i a b
        simp only [Bool.and_eq_true, decide_eq_true_eq] at h
        obtain ⟨h1, h2⟩ := h
        refine ⟨⟨a, b.toNat, by omega, ?_⟩, ?_⟩
        · show Nat.gcd a.natAbs b.toNat = 1
          rw [show b.toNat = b.natAbs by omega]; exact h2
        · show PV.tup [.int a, .int ((b.toNat : Nat) : Int)] = _
          rw [Int.toNat_of_nonneg (by omega)]
      · cases h
    · rintro ⟨x, rfl⟩
      show (decide ((1 : Int) ≤ x.den) && decide (Int.gcd x.num x.den = 1)) = true
      have h1 : (1 : Int) ≤ x.den := by have := x.den_nz; omega
      have h2 : Int.gcd x.num x.den = 1 := x.reduced
      rw [decide_eq_true h1, decide_eq_true h2]; rfl
  cmp a b := if a.num * b.den < b.num * a.den then -1 else if b.num * a.den < a.num * b.den then 1 else 0
  ofInt i := i
  ofInt_eq i := rfl
end Pl

set_option Elab.async false
set_option linter.all false
set_option maxRecDepth 100000
set_option maxHeartbeats 4000000
namespace Lk00
open Ev Sg
open PySem (Str)
local macro_rules | `(tactic| simp! [$ls,*]) => `(tactic| simp -implicitDefEqProofs only [
  e_var, vK_s, e_cst, e_bin, bin1_ok, bin2_ok, bin1_ex, bin2_ex, e_neg, neg1_ok, neg1_ex, e_nt,
  nt1_ok, nt1_ex, ntB_s, e_and, and1_ok, and1_ex, andB_t, andB_f, e_or, or1_ok, or1_ex, orB_t,
  orB_f, e_cmp, cmp1_ok, cmp2_ok, cmp1_ex, cmp2_ex, e_cmpD, cmD1_ok, cmD2_ok, cmD1_ex, cmD2_ex, e_chain,
  ch1_ok, ch2_ok, ch3_ok, chB_t, chB_f, ch4_ok, e_ite, ite1_ok, ite1_ex, iteB_t, iteB_f, e_tup,
  tup1_ok, tup1_ex, e_lst, lst1_ok, lst1_ex, es_nil, es_cons, es1_ok, es2_ok, es1_ex, es2_ex, e_call,
  call1_ok, call1_ex, pick_nil, pick_cons, pick1_s, e_callB, callb1_ok, callb1_ex, callb2_s, e_make, make1_ok, make1_ex,
  e_meth, meth1_ok, meth1_ex, methB_s, meth2_ok, meth2_ex, e_attr, attr1_ok, attr1_ex, attrOf_ins, opt_s, e_ix,
  ix1_ok, ix2_ok, ix1_ex, ix2_ex, e_slc, sl1_ok, sl2_ok, sl3_ok, slH_t, slH_f, prt_i, e_rslc,
  rsl1_ok, e_blt, blt_1_ok, blt_1_ex, e_lm, lm1_ok, lm1_ex, lmB_t, lm2_ok, lm2_ex, e_isin, is1_ok,
  is1_ex, isB1_s, ist_nil, ist_cons, istK_t, istK_f, e_xat, e_xis, ext_nil, ext_own, ext_verr, i_rng,
  rng1_ok, rng1_ex, rngK_s, i_revr, rvr1_ok, rvrK_s, i_seq, seqI1_ok, seqI1_ex, i_enm, enm1_ok, enmK_s,
  i_rev, rev1_ok, revK_s, i_zip, zip1_ok, zip2_ok, cpE_ok, e_comp, cp1_ok, cp1_ex, e_comp2, cp2_1_ok,
  cbE_ok, e_bltC, cb1_ok, cb1_ex, e_bltI, bi1_ok, t_nil, t_cons, ts1_ok, tsK_t, tsK_f, cpD_ok,
  cpC_ok, cpB_t, cpB_f, cpA_s, ss_nil, ss_cons, seqK_nx, seqK_rt, seqK_bk, seqK_ct, seqK_ex, s_expr,
  sExpr_ok, sExpr_ex, s_set, sSet_ok, sSet_ex, sFr_s, s_setT, sSetT_ok, sSetT_ex, asg_nm, asg_tp, sa_nil,
  sa_cons, s_par, sPar_ok, sPar_ex, sSt_s, s_sub, sb1_ok, sb1_ex, sb2_ok, sb3_ok, s_attr, sa1_ok,
  sa1_ex, sa2_ok, s_aug, au1_s, au2_add, au2_sub, s_ife, if1_ok, if1_ex, ifB_t, ifB_f, s_for,
  fo1_ok, fo1_ex, foA_s, foB_nx, foB_ct, foB_bk, foB_rt, foB_ex, s_whl, wh1_ok, whB_t, whB_f,
  whC_nx, whC_ct, whC_bk, whC_rt, s_ret, rt1_ok, rt1_ex, s_retN, s_raise, rz1_ok, rz1_ex, s_try,
  tryK_nx, tryK_rt, tryK_bk, tryK_ct, tryK_ex, s_pass, s_brk, s_cnt, h_nil, h_cons, hdB_f, hdB_s,
  hdB_n, hdE_nx, hdE_bk, hdE_ct, hdE_rt, hdN_nx, hdN_bk, hdN_ct, hdN_rt, fin_rt, fin_nx, fin_ex,
  gc_id, gcX_id, tr_bl, tr_int, tr_non, tr_tup, tr_flst, newT_ok, newL_ok, newT_0, newL_0, newT_1,
  newT_2, newT_3, b_add, b_sub, b_mod, b_addT, b_addO, addO_l, cm_eq, cm_ne, cp_eq, cp_ne,
  cm_in, cm_notin, cm_lt, cm_le, cm_gt, cm_ge, cm_is, cm_isnot, cm_isb, cm_isnotb, cp_lt, cp_le,
  cp_gt, cp_ge, in_non, in_int, in_bl, in_tup, in_flst, in_str, in_obj, in_ins, pu_non, pu_int,
  pu_bl, pu_str, pu_tup, pu_flst, pus_nil, pus_cons, ve_int, ve_str, ve_bl, ve_non, ve_tup, ve_flst,
  vs_nil, vs_cons, vs_nc, vs_cn, ve_nt_i, ve_nt_b, ve_nt_s, ve_nt_t, ve_nt_l, ve_i_n, ve_i_s, ve_i_t,
  ve_i_l, ve_i_b, ve_b_i, ve_b_n, ve_b_s, ve_b_t, ve_b_l, ve_s_n, ve_s_i, ve_s_b, ve_s_t, ve_s_l,
  ve_t_n, ve_t_i, ve_t_b, ve_t_s, ve_t_l, ve_l_n, ve_l_i, ve_l_b, ve_l_s, ve_l_t, vm_nil, vm_cons,
  ty_int, ty_bl, ty_non, ty_str, ty_tup, ty_flst, ty_own, ty_insl, ty_inst, ty_insi, ty_insb, ty_inss,
  ty_obj, tyO_l, tyO_own, tyO_il, tyO_it, tyO_ii, tyO_ib, tyO_is, at_0, at_1, at_2, at_3,
  at_4, ixN_0, ixN_1, ixN_2, ixN_3, ix_tup, ix_flst, ix_obj, ixO_l, bl_abs, bl_int, bl_intb,
  bl_lenT, bl_lenF, bl_lenO, lenO_l, bl_tupT, bl_tupF, bl_tupO, tupO_l, bl_lstO, lstO_l, bl_lstT, bl_lstF,
  bl_min2, bl_max2, il_obj, ilO_l, lm_obj, lmO_app, lmO_pop, setL_ok, stm_tup, stm_flst, stm_obj, stmO_l,
  wt_nil, wt_cons, wtO_l, if_t, if_f, lg_hit, lg_miss, attrOf_obj, atO_i, tr_obj, trO_l, sub_obj,
  subO_l, subI_s, rg_1, rg_2, sg_app, sg_app0, ss_app, ss_app0, sl_app, gc_c2, gcX_c2, gc_db,
  gc_di, gc_dn, gc_ds, if_true, if_false, decide_true, decide_false, Bool.not_true, Bool.not_false, Bool.true_and, Bool.and_true, Bool.false_and,
  Bool.and_false, Bool.or_true, Bool.true_or, Bool.or_false, Bool.false_or, Bool.not_not, List.getElem?_cons_zero, List.getElem?_cons_succ, List.set_cons_zero, List.set_cons_succ, List.length_cons, List.length_nil,
  List.nil_append, List.cons_append, List.append_nil, List.append_assoc, List.isEmpty_cons, List.isEmpty_nil, List.any_cons, List.any_nil, sizeOk_le, Nat.reduceAdd, Nat.reduceLeDiff, Nat.reduceLT,
  Nat.reduceEqDiff, Nat.reduceBEq, Nat.zero_add, Nat.add_zero, Nat.reduceBneDiff, Nat.reduceSub, Nat.reduceMul, Int.reduceEq, Int.reduceLT, Int.reduceLE, Int.reduceNe, Int.reduceAdd,
  Int.reduceSub, Int.reduceMul, Int.reduceNeg, Int.reduceToNat, Int.reduceMod, ne_eq, not_true_eq_false, not_false_eq_true, Int.cast_ofNat_Int, Int.reduceNegSucc, $ls,*])
open Pl
theorem b_divD {a d : Int} {st : Store} (h : d ∣ a) (h0 : d ≠ 0) (h2 : d.natAbs.log2 < 9000) : binop .fdiv (.int a) (.int d) st = .ok (.int (a / d)) st := by
  show (if divOk d then _ else _) = _
  have e : divOk d = true := by
    unfold divOk
    rw [decide_eq_true h0, decide_eq_true h2]
    rfl
  rw [if_pos e, Int.fdiv_eq_ediv_of_dvd h]
/-! Fractions. -/
theorem lt_ok {n a b k st} (hb : b ≠ 0) (ha : a.natAbs < 2 ^ k) (hbb : b.natAbs < 2 ^ k) (hk : k ≤ 8999 := by omega) :
    callN T (n + 2) 4 [.int a, .int b] st = .ok (rat (Rat.divInt a b)) st := by
  by_cases h1 : b = 1
  · subst h1
    simp! [c_lowest_terms, b_lowest_terms]
    unfold rat
    rw [Rat.num_divInt, Rat.den_divInt]
    simp
  · have hg : ((Int.gcd a b : Nat) : Int) ≠ 0 := by
      have : Int.gcd a b ≠ 0 := fun e => hb (Int.gcd_eq_zero_iff.mp e).2
      omega
    have hl : (Int.gcd a b).log2 < 9000 := Nat.lt_of_lt_of_le (log2_bits (Nat.lt_of_lt_of_le (gcd_lt hb hbb) (Nat.pow_le_pow_right (by decide) (show k ≤ 9000 by omega)))) (Nat.le_refl _)
    have hda : ((Int.gcd a b : Nat) : Int) ∣ a := Int.gcd_dvd_left ..
    have hdb : ((Int.gcd a b : Nat) : Int) ∣ b := Int.gcd_dvd_right ..
    by_cases h2 : b < 0
    · simp! [c_lowest_terms, b_lowest_terms, h1, h2, cd_ok ha, b_divD (Int.neg_dvd.mpr hda) (Int.neg_ne_zero.mpr hg) (by rw [Int.natAbs_neg]; exact hl), b_divD (Int.neg_dvd.mpr hdb) (Int.neg_ne_zero.mpr hg) (by rw [Int.natAbs_neg]; exact hl)]
      unfold rat
      rw [Rat.num_divInt, Rat.den_divInt, if_neg hb, Int.sign_eq_neg_one_of_neg h2, Int.gcd_comm b a, Int.ediv_neg, Int.ediv_neg, Int.neg_one_mul, Int.neg_ediv_of_dvd hda]
      congr 5
      rw [Int.natCast_ediv, Int.ofNat_natAbs_of_nonpos (by omega), Int.neg_ediv_of_dvd hdb]
    · simp! [c_lowest_terms, b_lowest_terms, h1, h2, cd_ok ha, b_divD hda hg hl, b_divD hdb hg hl]
      unfold rat
      rw [Rat.num_divInt, Rat.den_divInt, if_neg hb, Int.sign_eq_one_of_pos (by omega), Int.gcd_comm b a, Int.one_mul]
      congr 5
      rw [Int.natCast_ediv, Int.natAbs_of_nonneg (by omega)]
theorem rplus_ok {n a b j k st} (ha : Sz j a) (hb : Sz k b) (hk : j + k ≤ 8000 := by omega) : callN T (n + 3) 6 [rat a, rat b] st = .ok (rat (a + b)) st := by
  by_cases h : (a.den : Int) = b.den
  · have e : Rat.divInt (a.num + b.num) a.den = a + b := by
      rw [rat_add, ← h, ← Int.add_mul, Rat.divInt_mul_right (den_ne a)]
    have h1 : (a.num + b.num).natAbs < 2 ^ (j + k + 1) := by
      have h3 := ha.1
      have h4 := hb.1
      have h5 : 2 ^ j ≤ 2 ^ (j + k) := Nat.pow_le_pow_right (by decide) (by omega)
      have h6 : 2 ^ k ≤ 2 ^ (j + k) := Nat.pow_le_pow_right (by decide) (by omega)
      rw [Nat.pow_succ]
      omega
    have h2 : (a.den : Int).natAbs < 2 ^ (j + k + 1) := Nat.lt_of_lt_of_le ha.2 (Nat.pow_le_pow_right (by decide) (by omega))
    have e2 := lt_ok (n := n) (st := st) (den_ne a) h1 h2
    rw [e, h] at e2
    simp! [c_ratio_plus, b_ratio_plus, rat, h, e2]
  · have m1 : mulOk a.num b.den = true := mulOk_bits (m := j + 1) (n := k + 1) (Nat.lt_of_lt_of_le ha.1 (Nat.pow_le_pow_right (by decide) (by omega))) (Nat.lt_of_lt_of_le hb.2 (Nat.pow_le_pow_right (by decide) (by omega))) (by omega) (by omega) (by omega)
    have m2 : mulOk b.num a.den = true := mulOk_bits (m := k + 1) (n := j + 1) (Nat.lt_of_lt_of_le hb.1 (Nat.pow_le_pow_right (by decide) (by omega))) (Nat.lt_of_lt_of_le ha.2 (Nat.pow_le_pow_right (by decide) (by omega))) (by omega) (by omega) (by omega)
    have m3 : mulOk a.den b.den = true := mulOk_bits (m := j + 1) (n := k + 1) (Nat.lt_of_lt_of_le ha.2 (Nat.pow_le_pow_right (by decide) (by omega))) (Nat.lt_of_lt_of_le hb.2 (Nat.pow_le_pow_right (by decide) (by omega))) (by omega) (by omega) (by omega)
    have h1 : (a.num * b.den + b.num * a.den).natAbs < 2 ^ (j + k + 1) := by
      have h1 : (a.num * (b.den : Int)).natAbs < 2 ^ (j + k) := by rw [Int.natAbs_mul]; exact mul_lt_pow ha.1 hb.2
      have h2 : (b.num * (a.den : Int)).natAbs < 2 ^ (j + k) := by rw [Int.natAbs_mul, Nat.add_comm]; exact mul_lt_pow hb.1 ha.2
      exact Nat.lt_of_le_of_lt (Int.natAbs_add_le _ _) (add_lt_pow h1 h2)
    have h2 : (a.den * b.den : Int).natAbs < 2 ^ (j + k + 1) := by
      rw [Int.natAbs_mul]
      exact Nat.lt_of_lt_of_le (mul_lt_pow ha.2 hb.2) (Nat.pow_le_pow_right (by decide) (by omega))
    simp! [c_ratio_plus, b_ratio_plus, rat, h, b_mul m1, b_mul m2, b_mul m3, lt_ok (Int.mul_ne_zero (den_ne a) (den_ne b)) h1 h2]
    rw [rat_add]
theorem rminus_ok {n a b j k st} (ha : Sz j a) (hb : Sz k b) (hk : j + k ≤ 8000 := by omega) : callN T (n + 4) 7 [rat a, rat b] st = .ok (rat (a - b)) st := by
  have h := rplus_ok (n := n) (st := st) ha hb.neg
  rw [← Rat.sub_eq_add_neg] at h
  unfold rat at h ⊢
  rw [Rat.neg_num, Rat.neg_den] at h
  simp! [c_ratio_minus, b_ratio_minus, h]
theorem rtimes_ok {n a b j k st} (ha : Sz j a) (hb : Sz k b) (hk : j + k ≤ 8000 := by omega) : callN T (n + 3) 8 [rat a, rat b] st = .ok (rat (a * b)) st := by
  have m1 : mulOk a.num b.num = true := mulOk_bits (m := j + 1) (n := k + 1) (Nat.lt_of_lt_of_le ha.1 (Nat.pow_le_pow_right (by decide) (by omega))) (Nat.lt_of_lt_of_le hb.1 (Nat.pow_le_pow_right (by decide) (by omega))) (by omega) (by omega) (by omega)
  have m3 : mulOk a.den b.den = true := mulOk_bits (m := j + 1) (n := k + 1) (Nat.lt_of_lt_of_le ha.2 (Nat.pow_le_pow_right (by decide) (by omega))) (Nat.lt_of_lt_of_le hb.2 (Nat.pow_le_pow_right (by decide) (by omega))) (by omega) (by omega) (by omega)
  have h1 : (a.num * b.num).natAbs < 2 ^ (j + k) := by rw [Int.natAbs_mul]; exact mul_lt_pow ha.1 hb.1
  have h2 : (a.den * b.den : Int).natAbs < 2 ^ (j + k) := by rw [Int.natAbs_mul]; exact mul_lt_pow ha.2 hb.2
  rw [rat_mul]
  simp! [c_ratio_times, b_ratio_times, rat, b_mul m1, b_mul m3, lt_ok (Int.mul_ne_zero (den_ne a) (den_ne b)) h1 h2]
theorem rover_ok {n a b j k st} (ha : Sz j a) (hb : Sz k b) (h0 : b ≠ 0) (hk : j + k ≤ 8000 := by omega) : callN T (n + 3) 9 [rat a, rat b] st = .ok (rat (a / b)) st := by
  have m1 : mulOk a.num b.den = true := mulOk_bits (m := j + 1) (n := k + 1) (Nat.lt_of_lt_of_le ha.1 (Nat.pow_le_pow_right (by decide) (by omega))) (Nat.lt_of_lt_of_le hb.2 (Nat.pow_le_pow_right (by decide) (by omega))) (by omega) (by omega) (by omega)
  have m3 : mulOk a.den b.num = true := mulOk_bits (m := j + 1) (n := k + 1) (Nat.lt_of_lt_of_le ha.2 (Nat.pow_le_pow_right (by decide) (by omega))) (Nat.lt_of_lt_of_le hb.1 (Nat.pow_le_pow_right (by decide) (by omega))) (by omega) (by omega) (by omega)
  have h1 : (a.num * b.den : Int).natAbs < 2 ^ (j + k) := by rw [Int.natAbs_mul]; exact mul_lt_pow ha.1 hb.2
  have h2 : (a.den * b.num : Int).natAbs < 2 ^ (j + k) := by rw [Int.natAbs_mul]; exact mul_lt_pow ha.2 hb.1
  have hn : b.num ≠ 0 := fun e => h0 (Rat.num_eq_zero.mp e)
  rw [rat_div]
  simp! [c_ratio_over, b_ratio_over, rat, hn, b_mul m1, b_mul m3, lt_ok (Int.mul_ne_zero (den_ne a) hn) h1 h2]
theorem rover_0 {n a st} : callN T (n + 3) 9 [rat a, rat 0] st = .exc 2 [] [] st := by
  simp! [c_ratio_over, b_ratio_over, rat, rz_DividedByNought, Rat.zero_num]
def rcmp (a b : Rat) : Int := if a.num * b.den < b.num * a.den then -1 else if b.num * a.den < a.num * b.den then 1 else 0
theorem rcmp_lt (a b : Rat) : rcmp a b = if a < b then -1 else if b < a then 1 else 0 := by
  unfold rcmp; simp only [Rat.lt_iff]
theorem rcmp_ok {n a b j k st} (ha : Sz j a) (hb : Sz k b) (hk : j + k ≤ 8000 := by omega) : callN T (n + 1) 10 [rat a, rat b] st = .ok (.int (rcmp a b)) st := by
  have m1 : mulOk a.num b.den = true := mulOk_bits (m := j + 1) (n := k + 1) (Nat.lt_of_lt_of_le ha.1 (Nat.pow_le_pow_right (by decide) (by omega))) (Nat.lt_of_lt_of_le hb.2 (Nat.pow_le_pow_right (by decide) (by omega))) (by omega) (by omega) (by omega)
  have m2 : mulOk b.num a.den = true := mulOk_bits (m := k + 1) (n := j + 1) (Nat.lt_of_lt_of_le hb.1 (Nat.pow_le_pow_right (by decide) (by omega))) (Nat.lt_of_lt_of_le ha.2 (Nat.pow_le_pow_right (by decide) (by omega))) (by omega) (by omega) (by omega)
  unfold rcmp
  by_cases h : a.num * b.den < b.num * a.den
  · have : a.num * b.den - b.num * a.den < 0 := by omega
    rw [if_pos h]
    simp! [c_ratio_compare, b_ratio_compare, rat, b_mul m1, b_mul m2, this]
  · have h3 : ¬ (a.num * b.den - b.num * a.den < 0) := by omega
    rw [if_neg h]
    by_cases h2 : b.num * a.den < a.num * b.den
    · have : 0 < a.num * b.den - b.num * a.den := by omega
      rw [if_pos h2]
      simp! [c_ratio_compare, b_ratio_compare, rat, b_mul m1, b_mul m2, h3, this]
    · have : ¬ (0 < a.num * b.den - b.num * a.den) := by omega
      rw [if_neg h2]
      simp! [c_ratio_compare, b_ratio_compare, rat, b_mul m1, b_mul m2, h3, this]
theorem isratio_ok {n a k st} (ha : Sz k a) (hk : k ≤ 8000 := by omega) : callN T (n + 2) 3 [rat a] st = .ok (.bl true) st := by
  have h1 : (1 : Int) ≤ a.den := by have := den_pos a; omega
  have hg : Int.gcd a.num a.den = 1 := a.reduced
  simp! [c_is_ratio, b_is_ratio, rat, whole_i, whole_il, h1, cd_ok ha.1, hg]

end Lk00

set_option Elab.async false
set_option linter.all false
set_option maxRecDepth 100000
set_option maxHeartbeats 4000000
namespace Lk00
open Ev Sg
open PySem (Str)
local macro_rules | `(tactic| simp! [$ls,*]) => `(tactic| simp -implicitDefEqProofs only [
  e_var, vK_s, e_cst, e_bin, bin1_ok, bin2_ok, bin1_ex, bin2_ex, e_neg, neg1_ok, neg1_ex, e_nt,
  nt1_ok, nt1_ex, ntB_s, e_and, and1_ok, and1_ex, andB_t, andB_f, e_or, or1_ok, or1_ex, orB_t,
  orB_f, e_cmp, cmp1_ok, cmp2_ok, cmp1_ex, cmp2_ex, e_cmpD, cmD1_ok, cmD2_ok, cmD1_ex, cmD2_ex, e_chain,
  ch1_ok, ch2_ok, ch3_ok, chB_t, chB_f, ch4_ok, e_ite, ite1_ok, ite1_ex, iteB_t, iteB_f, e_tup,
  tup1_ok, tup1_ex, e_lst, lst1_ok, lst1_ex, es_nil, es_cons, es1_ok, es2_ok, es1_ex, es2_ex, e_call,
  call1_ok, call1_ex, pick_nil, pick_cons, pick1_s, e_callB, callb1_ok, callb1_ex, callb2_s, e_make, make1_ok, make1_ex,
  e_meth, meth1_ok, meth1_ex, methB_s, meth2_ok, meth2_ex, e_attr, attr1_ok, attr1_ex, attrOf_ins, opt_s, e_ix,
  ix1_ok, ix2_ok, ix1_ex, ix2_ex, e_slc, sl1_ok, sl2_ok, sl3_ok, slH_t, slH_f, prt_i, e_rslc,
  rsl1_ok, e_blt, blt_1_ok, blt_1_ex, e_lm, lm1_ok, lm1_ex, lmB_t, lm2_ok, lm2_ex, e_isin, is1_ok,
  is1_ex, isB1_s, ist_nil, ist_cons, istK_t, istK_f, e_xat, e_xis, ext_nil, ext_own, ext_verr, i_rng,
  rng1_ok, rng1_ex, rngK_s, i_revr, rvr1_ok, rvrK_s, i_seq, seqI1_ok, seqI1_ex, i_enm, enm1_ok, enmK_s,
  i_rev, rev1_ok, revK_s, i_zip, zip1_ok, zip2_ok, cpE_ok, e_comp, cp1_ok, cp1_ex, e_comp2, cp2_1_ok,
  cbE_ok, e_bltC, cb1_ok, cb1_ex, e_bltI, bi1_ok, t_nil, t_cons, ts1_ok, tsK_t, tsK_f, cpD_ok,
  cpC_ok, cpB_t, cpB_f, cpA_s, ss_nil, ss_cons, seqK_nx, seqK_rt, seqK_bk, seqK_ct, seqK_ex, s_expr,
  sExpr_ok, sExpr_ex, s_set, sSet_ok, sSet_ex, sFr_s, s_setT, sSetT_ok, sSetT_ex, asg_nm, asg_tp, sa_nil,
  sa_cons, s_par, sPar_ok, sPar_ex, sSt_s, s_sub, sb1_ok, sb1_ex, sb2_ok, sb3_ok, s_attr, sa1_ok,
  sa1_ex, sa2_ok, s_aug, au1_s, au2_add, au2_sub, s_ife, if1_ok, if1_ex, ifB_t, ifB_f, s_for,
  fo1_ok, fo1_ex, foA_s, foB_nx, foB_ct, foB_bk, foB_rt, foB_ex, s_whl, wh1_ok, whB_t, whB_f,
  whC_nx, whC_ct, whC_bk, whC_rt, s_ret, rt1_ok, rt1_ex, s_retN, s_raise, rz1_ok, rz1_ex, s_try,
  tryK_nx, tryK_rt, tryK_bk, tryK_ct, tryK_ex, s_pass, s_brk, s_cnt, h_nil, h_cons, hdB_f, hdB_s,
  hdB_n, hdE_nx, hdE_bk, hdE_ct, hdE_rt, hdN_nx, hdN_bk, hdN_ct, hdN_rt, fin_rt, fin_nx, fin_ex,
  gc_id, gcX_id, tr_bl, tr_int, tr_non, tr_tup, tr_flst, newT_ok, newL_ok, newT_0, newL_0, newT_1,
  newT_2, newT_3, b_add, b_sub, b_mod, b_addT, b_addO, addO_l, cm_eq, cm_ne, cp_eq, cp_ne,
  cm_in, cm_notin, cm_lt, cm_le, cm_gt, cm_ge, cm_is, cm_isnot, cm_isb, cm_isnotb, cp_lt, cp_le,
  cp_gt, cp_ge, in_non, in_int, in_bl, in_tup, in_flst, in_str, in_obj, in_ins, pu_non, pu_int,
  pu_bl, pu_str, pu_tup, pu_flst, pus_nil, pus_cons, ve_int, ve_str, ve_bl, ve_non, ve_tup, ve_flst,
  vs_nil, vs_cons, vs_nc, vs_cn, ve_nt_i, ve_nt_b, ve_nt_s, ve_nt_t, ve_nt_l, ve_i_n, ve_i_s, ve_i_t,
  ve_i_l, ve_i_b, ve_b_i, ve_b_n, ve_b_s, ve_b_t, ve_b_l, ve_s_n, ve_s_i, ve_s_b, ve_s_t, ve_s_l,
  ve_t_n, ve_t_i, ve_t_b, ve_t_s, ve_t_l, ve_l_n, ve_l_i, ve_l_b, ve_l_s, ve_l_t, vm_nil, vm_cons,
  ty_int, ty_bl, ty_non, ty_str, ty_tup, ty_flst, ty_own, ty_insl, ty_inst, ty_insi, ty_insb, ty_inss,
  ty_obj, tyO_l, tyO_own, tyO_il, tyO_it, tyO_ii, tyO_ib, tyO_is, at_0, at_1, at_2, at_3,
  at_4, ixN_0, ixN_1, ixN_2, ixN_3, ix_tup, ix_flst, ix_obj, ixO_l, bl_abs, bl_int, bl_intb,
  bl_lenT, bl_lenF, bl_lenO, lenO_l, bl_tupT, bl_tupF, bl_tupO, tupO_l, bl_lstO, lstO_l, bl_lstT, bl_lstF,
  bl_min2, bl_max2, il_obj, ilO_l, lm_obj, lmO_app, lmO_pop, setL_ok, stm_tup, stm_flst, stm_obj, stmO_l,
  wt_nil, wt_cons, wtO_l, if_t, if_f, lg_hit, lg_miss, attrOf_obj, atO_i, tr_obj, trO_l, sub_obj,
  subO_l, subI_s, rg_1, rg_2, sg_app, sg_app0, ss_app, ss_app0, sl_app, gc_c2, gcX_c2, gc_db,
  gc_di, gc_dn, gc_ds, if_true, if_false, decide_true, decide_false, Bool.not_true, Bool.not_false, Bool.true_and, Bool.and_true, Bool.false_and,
  Bool.and_false, Bool.or_true, Bool.true_or, Bool.or_false, Bool.false_or, Bool.not_not, List.getElem?_cons_zero, List.getElem?_cons_succ, List.set_cons_zero, List.set_cons_succ, List.length_cons, List.length_nil,
  List.nil_append, List.cons_append, List.append_nil, List.append_assoc, List.isEmpty_cons, List.isEmpty_nil, List.any_cons, List.any_nil, sizeOk_le, Nat.reduceAdd, Nat.reduceLeDiff, Nat.reduceLT,
  Nat.reduceEqDiff, Nat.reduceBEq, Nat.zero_add, Nat.add_zero, Nat.reduceBneDiff, Nat.reduceSub, Nat.reduceMul, Int.reduceEq, Int.reduceLT, Int.reduceLE, Int.reduceNe, Int.reduceAdd,
  Int.reduceSub, Int.reduceMul, Int.reduceNeg, Int.reduceToNat, Int.reduceMod, ne_eq, not_true_eq_false, not_false_eq_true, Int.cast_ofNat_Int, Int.reduceNegSucc, $ls,*])
open Pl
/-! The figures: an object for each field; its deeds. -/
def figV (K : Type) [FK K] : PV := .ins 5 [11, 12, 13] [.int (FK.pr K), FK.enc (0 : K), FK.enc (1 : K)]
theorem fig_prime {K} [FK K] {st} : attrOf 11 (figV K) st = .ok (.int (FK.pr K)) st := by
  unfold figV; simp! [lg_hit]
theorem fig_zero {K} [FK K] {st} : attrOf 12 (figV K) st = .ok (FK.enc (0 : K)) st := by
  unfold figV; simp! [lg_hit, lg_miss]
theorem fig_one {K} [FK K] {st} : attrOf 13 (figV K) st = .ok (FK.enc (1 : K)) st := by
  unfold figV; simp! [lg_hit, lg_miss]
theorem pr_rat : FK.pr Rat = 0 := rfl
theorem enc_rat {q : Rat} : FK.enc q = rat q := rfl
theorem pr_zp {p : Nat} [Pr p] : FK.pr (Zp p) = p := rfl
theorem enc_zp {p : Nat} [Pr p] {x : Zp p} : FK.enc x = .int x.v := rfl
theorem zpn {p : Nat} [h : Pr p] : ((p : Int) = 0) = False := by have := h.pos; simp; omega
theorem zpp {p : Nat} [h : Pr p] : ((0 : Int) < p) = True := by have := h.pos; simp; omega
theorem m_fig_plus {K} [FK K] {n xn st} : methOf (Gd T n xn) 0 (figV K) st = some 14 := m_Figures_plus
theorem m_fig_minus {K} [FK K] {n xn st} : methOf (Gd T n xn) 1 (figV K) st = some 15 := m_Figures_minus
theorem m_fig_times {K} [FK K] {n xn st} : methOf (Gd T n xn) 2 (figV K) st = some 16 := m_Figures_times
theorem m_fig_over {K} [FK K] {n xn st} : methOf (Gd T n xn) 3 (figV K) st = some 17 := m_Figures_over
theorem m_fig_negative {K} [FK K] {n xn st} : methOf (Gd T n xn) 4 (figV K) st = some 18 := m_Figures_negative
theorem m_fig_compare {K} [FK K] {n xn st} : methOf (Gd T n xn) 5 (figV K) st = some 19 := m_Figures_compare
theorem m_fig_whole_number {K} [FK K] {n xn st} : methOf (Gd T n xn) 6 (figV K) st = some 20 := m_Figures_whole_number
theorem m_fig_number_of {K} [FK K] {n xn st} : methOf (Gd T n xn) 7 (figV K) st = some 21 := m_Figures_number_of
theorem m_fig_is_number {K} [FK K] {n xn st} : methOf (Gd T n xn) 8 (figV K) st = some 22 := m_Figures_is_number
theorem m_fig_all_numbers {K} [FK K] {n xn st} : methOf (Gd T n xn) 9 (figV K) st = some 23 := m_Figures_all_numbers
theorem fig_make {K} [FK K] {n st} (hp : vmem (.int (FK.pr K)) [.int 0, .int 2, .int 3, .int 5, .int 7, .int 11, .int 13] = true)
    (h0 : FK.enc (0 : K) = if FK.pr K = 0 then .tup [.int 0, .int 1] else .int 0) (h1 : FK.enc (1 : K) = if FK.pr K = 0 then .tup [.int 1, .int 1] else .int 1) :
    makeObj (Gd T (n + 2) none) 5 [.int (FK.pr K)] st = .ok (figV K) st := by
  unfold makeObj
  rw [cls_Figures]
  have e : callN T (n + 2) 12 [.obj st.length, .int (FK.pr K)] (st ++ [.ins 5 [] []]) = .ok .non (st ++ [.ins 5 [11, 12, 13] [.int (FK.pr K), FK.enc (0 : K), FK.enc (1 : K)]]) := by
    have sf : ∀ f v ks ws, fieldOk (Gd T (n + 1) none) 5 f = true → ks.length < 900 → setFld (Gd T (n + 1) none) (.obj st.length) f v (st ++ [.ins 5 ks ws]) = some (st ++ [.ins 5 (putK f ks) (putG f v ks ws)]) := fun f v ks ws hf hk => by
      unfold setFld
      simp only [sg_app0, List.getElem?_cons_zero, hf, decide_eq_true hk, Bool.true_and, if_true, ss_app0, List.set_cons_zero]
    have f1 : fieldOk (Gd T (n + 1) none) 5 11 = true := by rfl
    have f2 : fieldOk (Gd T (n + 1) none) 5 12 = true := by rfl
    have f3 : fieldOk (Gd T (n + 1) none) 5 13 = true := by rfl
    have g : ∀ v, gc (st ++ [Cell.ins 5 [] []]) .non (st ++ [v]) = .ok .non (st ++ [v]) := fun v => by unfold gc; rw [if_pos (by simp)]
    by_cases hz : FK.pr K = 0
    · rw [if_pos hz] at h0 h1
      rw [h0, h1]
      rw [hz] at hp ⊢
      simp! [c_Figures___init__, b_Figures___init__, whole_i, hp, sf, f1, f2, f3, putK, putG, g]
      try exact g _
    · rw [if_neg hz] at h0 h1
      rw [h0, h1]
      simp! [c_Figures___init__, b_Figures___init__, whole_i, hp, hz, sf, f1, f2, f3, putK, putG, g]
      try exact g _
  show (match callN T (n + 2) 12 [.obj st.length, .int (FK.pr K)] (st ++ [.ins 5 [] []]) with
      | .ok .non st1 => _
      | .exc e ks us st1 => _
      | _ => _) = _
  rw [e]
  simp only [sg_app0, List.getElem?_cons_zero]
  have q : gcOk st.length st (st ++ [Cell.ins 5 [11, 12, 13] [.int (FK.pr K), FK.enc (0 : K), FK.enc (1 : K)]]) (.tup [.int (FK.pr K), FK.enc (0 : K), FK.enc (1 : K)]) = true := by
    unfold gcOk
    rw [List.take_left' rfl, storebeq_refl, closed, closeds, closeds, closeds, closeds, cl_pur (FK.enc_pur _ 0), cl_pur (FK.enc_pur _ 0), closed]
    rfl
    all_goals (intros; contradiction)
  rw [if_pos ⟨by simp, by trivial, q⟩, List.take_left' rfl]
  rfl

end Lk00

set_option Elab.async false
set_option linter.all false
set_option maxRecDepth 100000
set_option maxHeartbeats 4000000
namespace Lk00
open Ev Sg
open PySem (Str)
local macro_rules | `(tactic| simp! [$ls,*]) => `(tactic| simp -implicitDefEqProofs only [
  e_var, vK_s, e_cst, e_bin, bin1_ok, bin2_ok, bin1_ex, bin2_ex, e_neg, neg1_ok, neg1_ex, e_nt,
  nt1_ok, nt1_ex, ntB_s, e_and, and1_ok, and1_ex, andB_t, andB_f, e_or, or1_ok, or1_ex, orB_t,
  orB_f, e_cmp, cmp1_ok, cmp2_ok, cmp1_ex, cmp2_ex, e_cmpD, cmD1_ok, cmD2_ok, cmD1_ex, cmD2_ex, e_chain,
  ch1_ok, ch2_ok, ch3_ok, chB_t, chB_f, ch4_ok, e_ite, ite1_ok, ite1_ex, iteB_t, iteB_f, e_tup,
  tup1_ok, tup1_ex, e_lst, lst1_ok, lst1_ex, es_nil, es_cons, es1_ok, es2_ok, es1_ex, es2_ex, e_call,
  call1_ok, call1_ex, pick_nil, pick_cons, pick1_s, e_callB, callb1_ok, callb1_ex, callb2_s, e_make, make1_ok, make1_ex,
  e_meth, meth1_ok, meth1_ex, methB_s, meth2_ok, meth2_ex, e_attr, attr1_ok, attr1_ex, attrOf_ins, opt_s, e_ix,
  ix1_ok, ix2_ok, ix1_ex, ix2_ex, e_slc, sl1_ok, sl2_ok, sl3_ok, slH_t, slH_f, prt_i, e_rslc,
  rsl1_ok, e_blt, blt_1_ok, blt_1_ex, e_lm, lm1_ok, lm1_ex, lmB_t, lm2_ok, lm2_ex, e_isin, is1_ok,
  is1_ex, isB1_s, ist_nil, ist_cons, istK_t, istK_f, e_xat, e_xis, ext_nil, ext_own, ext_verr, i_rng,
  rng1_ok, rng1_ex, rngK_s, i_revr, rvr1_ok, rvrK_s, i_seq, seqI1_ok, seqI1_ex, i_enm, enm1_ok, enmK_s,
  i_rev, rev1_ok, revK_s, i_zip, zip1_ok, zip2_ok, cpE_ok, e_comp, cp1_ok, cp1_ex, e_comp2, cp2_1_ok,
  cbE_ok, e_bltC, cb1_ok, cb1_ex, e_bltI, bi1_ok, t_nil, t_cons, ts1_ok, tsK_t, tsK_f, cpD_ok,
  cpC_ok, cpB_t, cpB_f, cpA_s, ss_nil, ss_cons, seqK_nx, seqK_rt, seqK_bk, seqK_ct, seqK_ex, s_expr,
  sExpr_ok, sExpr_ex, s_set, sSet_ok, sSet_ex, sFr_s, s_setT, sSetT_ok, sSetT_ex, asg_nm, asg_tp, sa_nil,
  sa_cons, s_par, sPar_ok, sPar_ex, sSt_s, s_sub, sb1_ok, sb1_ex, sb2_ok, sb3_ok, s_attr, sa1_ok,
  sa1_ex, sa2_ok, s_aug, au1_s, au2_add, au2_sub, s_ife, if1_ok, if1_ex, ifB_t, ifB_f, s_for,
  fo1_ok, fo1_ex, foA_s, foB_nx, foB_ct, foB_bk, foB_rt, foB_ex, s_whl, wh1_ok, whB_t, whB_f,
  whC_nx, whC_ct, whC_bk, whC_rt, s_ret, rt1_ok, rt1_ex, s_retN, s_raise, rz1_ok, rz1_ex, s_try,
  tryK_nx, tryK_rt, tryK_bk, tryK_ct, tryK_ex, s_pass, s_brk, s_cnt, h_nil, h_cons, hdB_f, hdB_s,
  hdB_n, hdE_nx, hdE_bk, hdE_ct, hdE_rt, hdN_nx, hdN_bk, hdN_ct, hdN_rt, fin_rt, fin_nx, fin_ex,
  gc_id, gcX_id, tr_bl, tr_int, tr_non, tr_tup, tr_flst, newT_ok, newL_ok, newT_0, newL_0, newT_1,
  newT_2, newT_3, b_add, b_sub, b_mod, b_addT, b_addO, addO_l, cm_eq, cm_ne, cp_eq, cp_ne,
  cm_in, cm_notin, cm_lt, cm_le, cm_gt, cm_ge, cm_is, cm_isnot, cm_isb, cm_isnotb, cp_lt, cp_le,
  cp_gt, cp_ge, in_non, in_int, in_bl, in_tup, in_flst, in_str, in_obj, in_ins, pu_non, pu_int,
  pu_bl, pu_str, pu_tup, pu_flst, pus_nil, pus_cons, ve_int, ve_str, ve_bl, ve_non, ve_tup, ve_flst,
  vs_nil, vs_cons, vs_nc, vs_cn, ve_nt_i, ve_nt_b, ve_nt_s, ve_nt_t, ve_nt_l, ve_i_n, ve_i_s, ve_i_t,
  ve_i_l, ve_i_b, ve_b_i, ve_b_n, ve_b_s, ve_b_t, ve_b_l, ve_s_n, ve_s_i, ve_s_b, ve_s_t, ve_s_l,
  ve_t_n, ve_t_i, ve_t_b, ve_t_s, ve_t_l, ve_l_n, ve_l_i, ve_l_b, ve_l_s, ve_l_t, vm_nil, vm_cons,
  ty_int, ty_bl, ty_non, ty_str, ty_tup, ty_flst, ty_own, ty_insl, ty_inst, ty_insi, ty_insb, ty_inss,
  ty_obj, tyO_l, tyO_own, tyO_il, tyO_it, tyO_ii, tyO_ib, tyO_is, at_0, at_1, at_2, at_3,
  at_4, ixN_0, ixN_1, ixN_2, ixN_3, ix_tup, ix_flst, ix_obj, ixO_l, bl_abs, bl_int, bl_intb,
  bl_lenT, bl_lenF, bl_lenO, lenO_l, bl_tupT, bl_tupF, bl_tupO, tupO_l, bl_lstO, lstO_l, bl_lstT, bl_lstF,
  bl_min2, bl_max2, il_obj, ilO_l, lm_obj, lmO_app, lmO_pop, setL_ok, stm_tup, stm_flst, stm_obj, stmO_l,
  wt_nil, wt_cons, wtO_l, if_t, if_f, lg_hit, lg_miss, attrOf_obj, atO_i, tr_obj, trO_l, sub_obj,
  subO_l, subI_s, rg_1, rg_2, sg_app, sg_app0, ss_app, ss_app0, sl_app, gc_c2, gcX_c2, gc_db,
  gc_di, gc_dn, gc_ds, if_true, if_false, decide_true, decide_false, Bool.not_true, Bool.not_false, Bool.true_and, Bool.and_true, Bool.false_and,
  Bool.and_false, Bool.or_true, Bool.true_or, Bool.or_false, Bool.false_or, Bool.not_not, List.getElem?_cons_zero, List.getElem?_cons_succ, List.set_cons_zero, List.set_cons_succ, List.length_cons, List.length_nil,
  List.nil_append, List.cons_append, List.append_nil, List.append_assoc, List.isEmpty_cons, List.isEmpty_nil, List.any_cons, List.any_nil, sizeOk_le, Nat.reduceAdd, Nat.reduceLeDiff, Nat.reduceLT,
  Nat.reduceEqDiff, Nat.reduceBEq, Nat.zero_add, Nat.add_zero, Nat.reduceBneDiff, Nat.reduceSub, Nat.reduceMul, Int.reduceEq, Int.reduceLT, Int.reduceLE, Int.reduceNe, Int.reduceAdd,
  Int.reduceSub, Int.reduceMul, Int.reduceNeg, Int.reduceToNat, Int.reduceMod, ne_eq, not_true_eq_false, not_false_eq_true, Int.cast_ofNat_Int, Int.reduceNegSucc, $ls,*])
open Pl
/-! The figures' deeds. -/
theorem emod_nat {a b : Nat} : ((a % b : Nat) : Int) = (a : Int) % (b : Int) := Int.natCast_emod a b
theorem undone_loop {n : Nat} {p : Nat} [hp : Pr p] {x : Nat} (hx : x < p) {st : Store} : ∀ (xs : List PV) (t : Nat) (ks : Option PV), t < p →
    ∃ ks', foK (Gd T n none) (.nm 3) l_rest_undone_1 [] xs [some (.int x), some (.int p), some (.int t), ks] st = .nx [some (.int x), some (.int p), some (.int ((t * x ^ xs.length % p : Nat) : Int)), ks'] st
  | [], t, ks, ht => ⟨ks, by
    have e : t * x ^ ([] : List PV).length % p = t := by rw [List.length_nil, Nat.pow_zero, Nat.mul_one, Nat.mod_eq_of_lt ht]
    rw [e]
    simp! [fo_nil]⟩
  | y :: xs, t, ks, ht => by
    have hp1 := hp.le
    have hp0 : (0 : Int) < p := by have := hp.pos; omega
    have hm : mulOk (t : Int) x = true := mulOk_bits (m := 8) (n := 8) (by omega) (by omega) (by decide)
    obtain ⟨ks', e⟩ := undone_loop (n := n) (st := st) hx xs (t * x % p) (some y) (Nat.mod_lt _ hp.pos)
    refine ⟨ks', ?_⟩
    rw [emod_nat, Int.natCast_mul] at e
    simp! [fo_cons, ul_rest_undone_1, b_mul hm, hp0, e]
    rw [Nat.mod_mul_mod, Nat.pow_succ', Nat.mul_assoc]
theorem undone_ok {n : Nat} {p : Nat} [hp : Pr p] {x : Nat} (hx : x < p) {st : Store} : callN T (n + 1) 11 [.int x, .int p] st = .ok (.int ((x ^ (p - 2) % p : Nat) : Int)) st := by
  have hp1 := hp.le
  have hp2 := hp.two
  obtain ⟨ks', e⟩ := undone_loop (n := n) (st := st) hx (rangeL 0 ((p : Int) - 2).toNat) 1 none (by omega)
  have hl : (rangeL 0 ((p : Int) - 2).toNat).length = p - 2 := by
    unfold rangeL; rw [List.length_map, List.length_range]; omega
  rw [hl, Nat.one_mul] at e
  have hs : smallI ((p : Int) - 2) = true := smallI_of (by omega) (by omega)
  rw [show ((1 : Nat) : Int) = 1 from rfl] at e
  simp! [c_rest_undone, b_rest_undone, hs, e]
/-- ints are not too great for a common divisor -/
def smv (v : PV) : Prop := ∀ a xs, v = .tup (.int a :: xs) → a.natAbs < 2 ^ 8000
class FigOK (K : Type) [FK K] : Prop where
  plus : ∀ {n : Nat} {a b : K} {st : Store} {j k : Nat}, FK.sz j a → FK.sz k b → j + k ≤ 8000 → callN T (n + 5) 14 [figV K, FK.enc a, FK.enc b] st = .ok (FK.enc (a + b)) st
  minus : ∀ {n : Nat} {a b : K} {st : Store} {j k : Nat}, FK.sz j a → FK.sz k b → j + k ≤ 8000 → callN T (n + 5) 15 [figV K, FK.enc a, FK.enc b] st = .ok (FK.enc (a - b)) st
  times : ∀ {n : Nat} {a b : K} {st : Store} {j k : Nat}, FK.sz j a → FK.sz k b → j + k ≤ 8000 → callN T (n + 5) 16 [figV K, FK.enc a, FK.enc b] st = .ok (FK.enc (a * b)) st
  over : ∀ {n : Nat} {a b : K} {st : Store} {j k : Nat}, FK.sz j a → FK.sz k b → b ≠ 0 → j + k ≤ 8000 → callN T (n + 5) 17 [figV K, FK.enc a, FK.enc b] st = .ok (FK.enc (a / b)) st
  over0 : ∀ {n : Nat} {a : K} {st : Store}, callN T (n + 5) 17 [figV K, FK.enc a, FK.enc (0 : K)] st = .exc 2 [] [] st
  negative : ∀ {n : Nat} {a : K} {st : Store}, callN T (n + 5) 18 [figV K, FK.enc a] st = .ok (FK.enc (-a)) st
  compare : ∀ {n : Nat} {a b : K} {st : Store} {j k : Nat}, FK.sz j a → FK.sz k b → j + k ≤ 8000 → callN T (n + 5) 19 [figV K, FK.enc a, FK.enc b] st = .ok (.int (FK.cmp a b)) st
  whole_number : ∀ {n : Nat} {i : Int} {st : Store}, callN T (n + 5) 20 [figV K, .int i] st = .ok (FK.enc (FK.ofInt i : K)) st
  is_number : ∀ {n : Nat} {v : PV} {st : Store}, pur 12 v = true → smv v → callN T (n + 5) 22 [figV K, v] st = .ok (.bl (FK.isn K v)) st
  is_number_l : ∀ {n k : Nat} {xs : List PV} {st : Store}, st[k]? = some (.lst xs) → callN T (n + 5) 22 [figV K, .obj k] st = .ok (.bl (FK.isn K (.obj k))) st
theorem mod_int_nat {a : Int} {p m : Nat} (hp : 0 < p) (h : ((m % p : Nat) : Int) = a % p) : PV.int (a % (p : Int)) = .int ((m % p : Nat) : Int) := by rw [h]
instance : FigOK Rat where
  plus ha hb hk := by
    simp! [c_Figures_plus, b_Figures_plus, fig_prime, pr_rat, enc_rat, rplus_ok ha hb hk]
  minus ha hb hk := by
    simp! [c_Figures_minus, b_Figures_minus, fig_prime, pr_rat, enc_rat, rminus_ok ha hb hk]
  times ha hb hk := by
    simp! [c_Figures_times, b_Figures_times, fig_prime, pr_rat, enc_rat, rtimes_ok ha hb hk]
  over ha hb h0 hk := by
    simp! [c_Figures_over, b_Figures_over, fig_prime, pr_rat, enc_rat, rover_ok ha hb h0 hk]
  over0 := by
    intro n a st
    simp! [c_Figures_over, b_Figures_over, fig_prime, pr_rat, enc_rat, rover_0]
  negative := by
    intro n a st
    simp! [c_Figures_negative, b_Figures_negative, fig_prime, pr_rat, enc_rat, rat, Rat.neg_num, Rat.neg_den]
  compare ha hb hk := by
    simp! [c_Figures_compare, b_Figures_compare, fig_prime, pr_rat, enc_rat, rcmp_ok ha hb hk]
    rfl
  whole_number := by
    intro n i st
    simp! [c_Figures_whole_number, b_Figures_whole_number, fig_prime, pr_rat, enc_rat]
    rfl
  is_number := by
    intro n v st hv hs
    simp! [c_Figures_is_number, b_Figures_is_number, fig_prime, pr_rat]
    have key : callN T (n + 4) 3 [v] st = .ok (.bl (FK.isn Rat v)) st := by
      cases v with
      | tup xs =>
        match xs with
        | [] => simp! [c_is_ratio, b_is_ratio]; rfl
        | [x] => simp! [c_is_ratio, b_is_ratio]; cases x <;> rfl
        | x :: y :: z :: r =>
          have : (decide (((r.length + 1 + 1 + 1 : Nat) : Int) = 2)) = false := decide_eq_false (by omega)
          simp! [c_is_ratio, b_is_ratio, this]
          cases x <;> first | rfl | (cases y <;> rfl)
        | [x, y] =>
          rw [pu_tup, pus_cons, pus_cons] at hv
          cases x with
          | int a =>
            cases y with
            | int b =>
              show _ = Res.ok (PV.bl (decide (1 ≤ b) && decide (Int.gcd a b = 1))) st
              by_cases hb : 1 ≤ b
              · have hg : (decide (((Int.gcd a b : Nat) : Int) = 1)) = decide (Int.gcd a b = 1) := by
                  by_cases h : Int.gcd a b = 1
                  · rw [h]; rfl
                  · rw [decide_eq_false h, decide_eq_false (by omega)]
                simp! [c_is_ratio, b_is_ratio, whole_i, whole_il, hb, cd_ok (hs a [.int b] rfl), hg]
              · simp! [c_is_ratio, b_is_ratio, whole_i, whole_il, hb]
            | non => simp! [c_is_ratio, b_is_ratio, whole_i, whole_n]; rfl
            | bl q => simp! [c_is_ratio, b_is_ratio, whole_i, whole_b]; rfl
            | str q => simp! [c_is_ratio, b_is_ratio, whole_i, whole_s]; rfl
            | tup q => simp! [c_is_ratio, b_is_ratio, whole_i, whole_t]; rfl
            | flst q => simp! [c_is_ratio, b_is_ratio, whole_i, whole_l]; rfl
            | obj q => simp [pur] at hv
            | ins q => simp [pur] at hv
          | non => simp! [c_is_ratio, b_is_ratio, whole_n]; rfl
          | bl q => simp! [c_is_ratio, b_is_ratio, whole_b]; rfl
          | str q => simp! [c_is_ratio, b_is_ratio, whole_s]; rfl
          | tup q => simp! [c_is_ratio, b_is_ratio, whole_t]; rfl
          | flst q => simp! [c_is_ratio, b_is_ratio, whole_l]; rfl
          | obj q => simp [pur] at hv
          | ins q => simp [pur] at hv
      | obj q => simp [pur] at hv
      | ins q => simp [pur] at hv
      | _ => simp! [c_is_ratio, b_is_ratio]; rfl
    simp! [key]
  is_number_l := by
    intro n k xs st h
    simp! [c_Figures_is_number, b_Figures_is_number, fig_prime, pr_rat, c_is_ratio, b_is_ratio, h]
    rfl
instance zpOK (p : Nat) [hp : Pr p] : FigOK (Zp p) where
  plus := by
    intro n a b st j k _ _ _
    have hp0 : (0 : Int) < p := by have := hp.pos; omega
    simp! [c_Figures_plus, b_Figures_plus, fig_prime, pr_zp, enc_zp, zpn, hp0, Zp.v_add, emod_nat, Int.natCast_add]
  minus := by
    intro n a b st j k _ _ _
    have hp0 : (0 : Int) < p := by have := hp.pos; omega
    have := b.lt
    have e : ((a.v + (p - b.v) : Nat) : Int) = ((a.v : Int) - b.v) + p := by omega
    simp! [c_Figures_minus, b_Figures_minus, fig_prime, pr_zp, enc_zp, zpn, hp0, Zp.v_sub, emod_nat, e, Int.add_emod_right]
  times := by
    intro n a b st j k _ _ _
    have hp0 : (0 : Int) < p := by have := hp.pos; omega
    have := a.lt
    have := b.lt
    have := hp.le
    have hm : mulOk (a.v : Int) b.v = true := mulOk_bits (m := 8) (n := 8) (by omega) (by omega) (by decide)
    simp! [c_Figures_times, b_Figures_times, fig_prime, pr_zp, enc_zp, zpn, hp0, Zp.v_mul, emod_nat, b_mul hm, Int.natCast_mul]
  over := by
    intro n a b st j k _ _ h0 _
    have hp0 : (0 : Int) < p := by have := hp.pos; omega
    have := a.lt
    have := b.lt
    have := hp.le
    have hb : b.v ≠ 0 := fun e => h0 (Zp.ext' (by rw [e, Zp.v_0]))
    have hb2 : ((b.v : Int) = 0) = False := by simp; omega
    have := Nat.mod_lt (b.v ^ (p - 2)) hp.pos
    have hm : mulOk (a.v : Int) ((b.v ^ (p - 2) % p : Nat) : Int) = true := mulOk_bits (m := 8) (n := 8) (by omega) (by omega) (by decide)
    have e : ((a / b).v : Int) = (a.v : Int) * ((b.v ^ (p - 2) % p : Nat) : Int) % p := by
      rw [Lean.Grind.Field.div_eq_mul_inv, Zp.v_mul, Zp.v_inv hb, emod_nat, Int.natCast_mul]
    simp! [c_Figures_over, b_Figures_over, fig_prime, pr_zp, enc_zp, zpn, hp0, hb2, undone_ok b.lt, b_mul hm, e]
  over0 := by
    intro n a st
    have hp0 : (0 : Int) < p := by have := hp.pos; omega
    simp! [c_Figures_over, b_Figures_over, fig_prime, pr_zp, enc_zp, zpn, hp0, Zp.v_0, rz_DividedByNought]
  negative := by
    intro n a st
    have hp0 : (0 : Int) < p := by have := hp.pos; omega
    have := a.lt
    have e : ((p - a.v : Nat) : Int) = -(a.v : Int) + p := by omega
    simp! [c_Figures_negative, b_Figures_negative, fig_prime, pr_zp, enc_zp, zpn, hp0, Zp.v_neg, emod_nat, e, Int.add_emod_right]
  compare := by
    intro n a b st j k _ _ _
    have hp0 : (0 : Int) < p := by have := hp.pos; omega
    show _ = Res.ok (PV.int (if (a.v : Int) < b.v then -1 else if (b.v : Int) < a.v then 1 else 0)) st
    by_cases h : (a.v : Int) < b.v
    · simp! [c_Figures_compare, b_Figures_compare, fig_prime, pr_zp, enc_zp, zpn, h]
    · by_cases h2 : (b.v : Int) < a.v
      · simp! [c_Figures_compare, b_Figures_compare, fig_prime, pr_zp, enc_zp, zpn, h, h2]
      · simp! [c_Figures_compare, b_Figures_compare, fig_prime, pr_zp, enc_zp, zpn, h, h2]
  whole_number := by
    intro n i st
    have hp0 : (0 : Int) < p := by have := hp.pos; omega
    have e : (((FK.ofInt i : Zp p)).v : Int) = i % p := by
      show ((((i % p).toNat % p : Nat)) : Int) = i % p
      have h1 := Int.emod_nonneg i (Int.ne_of_gt hp0)
      have h2 := Int.emod_lt_of_pos i hp0
      rw [Nat.mod_eq_of_lt (by omega), Int.toNat_of_nonneg h1]
    simp! [c_Figures_whole_number, b_Figures_whole_number, fig_prime, pr_zp, enc_zp, zpn, hp0, e]
  is_number := by
    intro n v st hv _
    simp! [c_Figures_is_number, b_Figures_is_number, fig_prime, pr_zp, zpn]
    cases v with
    | int i => simp! [whole_ilh]; rfl
    | obj q => simp [pur] at hv
    | ins q => simp [pur] at hv
    | _ => simp! [whole_n, whole_b, whole_s, whole_t, whole_l]; rfl
  is_number_l := by
    intro n k xs st h
    simp! [c_Figures_is_number, b_Figures_is_number, fig_prime, pr_zp, zpn, whole_o h]
    rfl
theorem numof_rat {n : Nat} {q : Rat} {st : Store} : callN T (n + 6) 21 [figV Rat, rat q] st = .ok (rat q) st := by
  simp! [c_Figures_number_of, b_Figures_number_of, fig_prime, pr_rat]
theorem numof_zp {n p : Nat} [hp : Pr p] {q : Rat} {st : Store} (h : (q.den : Int) % p ≠ 0) : callN T (n + 6) 21 [figV (Zp p), rat q] st = .ok (FK.enc ((FK.ofInt q.num : Zp p) / FK.ofInt (q.den : Int))) st := by
  have hp0 : (0 : Int) < p := by have := hp.pos; omega
  have ev : ∀ i : Int, PV.int (i % (p : Int)) = FK.enc (FK.ofInt i : Zp p) := fun i => by
    show _ = PV.int ((((i % p).toNat % p : Nat)) : Int)
    have h1 := Int.emod_nonneg i (Int.ne_of_gt hp0)
    have h2 := Int.emod_lt_of_pos i hp0
    rw [Nat.mod_eq_of_lt (by omega), Int.toNat_of_nonneg h1]
  have hn : (FK.ofInt (q.den : Int) : Zp p) ≠ 0 := fun e => by
    have := ev (q.den : Int)
    rw [e] at this
    have z : PV.int ((q.den : Int) % (p : Int)) = .int ((0 : Zp p).v : Int) := this
    injection z with z
    rw [Zp.v_0] at z
    exact h z
  have o := FigOK.over (K := Zp p) (n := n) (st := st) (a := FK.ofInt q.num) (b := FK.ofInt (q.den : Int)) (j := 1) (k := 1) trivial trivial hn (by decide)
  rw [← ev, ← ev] at o
  simp! [c_Figures_number_of, b_Figures_number_of, fig_prime, pr_zp, zpn, rat, hp0, h, m_fig_over, o]
theorem numof_zp0 {n p : Nat} [hp : Pr p] {q : Rat} {st : Store} (h : (q.den : Int) % p = 0) : callN T (n + 6) 21 [figV (Zp p), rat q] st = .exc 4 [] [] st := by
  have hp0 : (0 : Int) < p := by have := hp.pos; omega
  simp! [c_Figures_number_of, b_Figures_number_of, fig_prime, pr_zp, zpn, rat, hp0, h, rz_BadNumber]
theorem alln_rat {n : Nat} {st : Store} : callN T (n + 1) 23 [figV Rat] st = .ok (.tup []) st := by
  simp! [c_Figures_all_numbers, b_Figures_all_numbers, fig_prime, pr_rat, show smallI 0 = true from by rfl, show rangeL 0 0 = [] from rfl, show bltL .tuple [] st = .ok (.tup []) st from rfl]
theorem alln_zp {n p : Nat} [hp : Pr p] {st : Store} : callN T (n + 1) 23 [figV (Zp p)] st = .ok (.tup (rangeL 0 p)) st := by
  have hp1 := hp.le
  have hs : smallI (p : Int) = true := smallI_of (by omega) (by omega)
  have hl : sizeOk (rangeL 0 p).length = true := by unfold rangeL; rw [List.length_map, List.length_range]; exact sizeOk_le (by omega)
  have e : ∀ xs st, bltL .tuple xs st = .ok (.tup xs) st := fun _ _ => rfl
  simp! [c_Figures_all_numbers, b_Figures_all_numbers, fig_prime, pr_zp, hs, Int.toNat_natCast, hl, e]
theorem fig_eq {n : Nat} {K K'} [FK K] [FK K'] {xn st} (hn : 0 < n) : compare (Gd T n xn) .eq (figV K) (figV K') st = .ok (.bl (decide (FK.pr K = FK.pr K'))) st := by
  obtain ⟨m, rfl⟩ : ∃ m, n = m + 1 := ⟨n - 1, by omega⟩
  have e : callN T (m + 1) 13 [figV K, figV K'] st = .ok (.bl (decide (FK.pr K = FK.pr K'))) st := by
    simp! [c_Figures___eq__, b_Figures___eq__, fig_prime, show isTy (Gd T m none).sub st (figV K') (.own 5) = some true from rfl]
  show eqOwn (Gd T (m + 1) xn) 5 (figV K) (figV K') st = _
  show (match callN T (m + 1) 13 [figV K, figV K'] st with
      | .ok (.bl k) st1 => Res.ok (PV.bl k) st1
      | _ => .stuck) = _
  rw [e]

end Lk00

set_option Elab.async false
set_option linter.all false
set_option maxRecDepth 100000
set_option maxHeartbeats 2000000
/-! The hand that a law draws from. -/
namespace Pl
open Ev Sg
structure Hd where
  cs : List Nat
  p : Nat
  g : Nat
  s : Nat
  hc : cs.length ≤ 63
  hp : p ≤ cs.length
  hs : s < 4294967296
def hst (h : Hd) (tl : Store) : Store := .lst (h.cs.map fun c => PV.int (c : Nat)) :: .lst [.obj 0, .int h.p, .int h.g, .int h.s] :: tl
def mx (a t : Int) : Int := ((((a * 39373 + t * 6151 + 50021) % 2147483399 * ((a * 39373 + t * 6151 + 50021) % 2147483399) + t * 81071 + (a * 39373 + t * 6151 + 50021) % 2147483399 / 137) % 2147483629 * 62089 + (a * 39373 + t * 6151 + 50021) % 2147483399 / 11) % 2147483587) / 64
def tkp (h : Hd) : Nat := if h.g = 0 ∧ h.p < h.cs.length then h.p + 1 else h.p
def tkg (h : Hd) (m : Int) : Nat := if h.g = 0 ∧ h.p < h.cs.length then (if h.cs.getD h.p 0 < 1000000000000000000 then 0 else h.cs.getD h.p 0 / m.toNat) else h.g / m.toNat
def tks (h : Hd) : Nat := if h.g = 0 ∧ ¬ h.p < h.cs.length then (h.s + 1) % 2147483549 else h.s
def tkH (h : Hd) (m : Int) : Hd := ⟨h.cs, tkp h, tkg h m, tks h, h.hc, by unfold tkp; have := h.hp; split <;> omega, by unfold tks; have := h.hs; split <;> omega⟩
def tkV (h : Hd) (m : Int) : Int :=
  if h.g = 0 ∧ h.p < h.cs.length then (if h.cs.getD h.p 0 < 1000000000000000000 then mx ((h.cs.getD h.p 0 : Nat) % 2147483399) (h.p + 1) % m else (h.cs.getD h.p 0 : Nat) % m)
  else if 0 < h.g then (h.g : Int) % m else mx (((h.s : Int) + 1) % 2147483549) h.p % m
theorem tk_nn {h : Hd} {m : Int} (hm : 0 < m) : 0 ≤ tkV h m := by
  unfold tkV
  split
  · split <;> exact Int.emod_nonneg _ (Int.ne_of_gt hm)
  · split <;> exact Int.emod_nonneg _ (Int.ne_of_gt hm)
theorem tk_lt {h : Hd} {m : Int} (hm : 0 < m) : tkV h m < m := by
  unfold tkV
  split
  · split <;> exact Int.emod_lt_of_pos _ hm
  · split <;> exact Int.emod_lt_of_pos _ hm
theorem hst_get {h : Hd} {tl : Store} {k : Nat} : (hst h tl)[k + 2]? = tl[k]? := rfl
theorem hst_len {h : Hd} {tl : Store} : (hst h tl).length = tl.length + 2 := rfl
theorem hst_app {h : Hd} {tl t : Store} : hst h tl ++ t = hst h (tl ++ t) := rfl
end Pl

set_option Elab.async false
set_option linter.all false
set_option maxRecDepth 100000
set_option maxHeartbeats 4000000
namespace Lk00
open Ev Sg
open PySem (Str)
local macro_rules | `(tactic| simp! [$ls,*]) => `(tactic| simp -implicitDefEqProofs only [
  e_var, vK_s, e_cst, e_bin, bin1_ok, bin2_ok, bin1_ex, bin2_ex, e_neg, neg1_ok, neg1_ex, e_nt,
  nt1_ok, nt1_ex, ntB_s, e_and, and1_ok, and1_ex, andB_t, andB_f, e_or, or1_ok, or1_ex, orB_t,
  orB_f, e_cmp, cmp1_ok, cmp2_ok, cmp1_ex, cmp2_ex, e_cmpD, cmD1_ok, cmD2_ok, cmD1_ex, cmD2_ex, e_chain,
  ch1_ok, ch2_ok, ch3_ok, chB_t, chB_f, ch4_ok, e_ite, ite1_ok, ite1_ex, iteB_t, iteB_f, e_tup,
  tup1_ok, tup1_ex, e_lst, lst1_ok, lst1_ex, es_nil, es_cons, es1_ok, es2_ok, es1_ex, es2_ex, e_call,
  call1_ok, call1_ex, pick_nil, pick_cons, pick1_s, e_callB, callb1_ok, callb1_ex, callb2_s, e_make, make1_ok, make1_ex,
  e_meth, meth1_ok, meth1_ex, methB_s, meth2_ok, meth2_ex, e_attr, attr1_ok, attr1_ex, attrOf_ins, opt_s, e_ix,
  ix1_ok, ix2_ok, ix1_ex, ix2_ex, e_slc, sl1_ok, sl2_ok, sl3_ok, slH_t, slH_f, prt_i, e_rslc,
  rsl1_ok, e_blt, blt_1_ok, blt_1_ex, e_lm, lm1_ok, lm1_ex, lmB_t, lm2_ok, lm2_ex, e_isin, is1_ok,
  is1_ex, isB1_s, ist_nil, ist_cons, istK_t, istK_f, e_xat, e_xis, ext_nil, ext_own, ext_verr, i_rng,
  rng1_ok, rng1_ex, rngK_s, i_revr, rvr1_ok, rvrK_s, i_seq, seqI1_ok, seqI1_ex, i_enm, enm1_ok, enmK_s,
  i_rev, rev1_ok, revK_s, i_zip, zip1_ok, zip2_ok, cpE_ok, e_comp, cp1_ok, cp1_ex, e_comp2, cp2_1_ok,
  cbE_ok, e_bltC, cb1_ok, cb1_ex, e_bltI, bi1_ok, t_nil, t_cons, ts1_ok, tsK_t, tsK_f, cpD_ok,
  cpC_ok, cpB_t, cpB_f, cpA_s, ss_nil, ss_cons, seqK_nx, seqK_rt, seqK_bk, seqK_ct, seqK_ex, s_expr,
  sExpr_ok, sExpr_ex, s_set, sSet_ok, sSet_ex, sFr_s, s_setT, sSetT_ok, sSetT_ex, asg_nm, asg_tp, sa_nil,
  sa_cons, s_par, sPar_ok, sPar_ex, sSt_s, s_sub, sb1_ok, sb1_ex, sb2_ok, sb3_ok, s_attr, sa1_ok,
  sa1_ex, sa2_ok, s_aug, au1_s, au2_add, au2_sub, s_ife, if1_ok, if1_ex, ifB_t, ifB_f, s_for,
  fo1_ok, fo1_ex, foA_s, foB_nx, foB_ct, foB_bk, foB_rt, foB_ex, s_whl, wh1_ok, whB_t, whB_f,
  whC_nx, whC_ct, whC_bk, whC_rt, s_ret, rt1_ok, rt1_ex, s_retN, s_raise, rz1_ok, rz1_ex, s_try,
  tryK_nx, tryK_rt, tryK_bk, tryK_ct, tryK_ex, s_pass, s_brk, s_cnt, h_nil, h_cons, hdB_f, hdB_s,
  hdB_n, hdE_nx, hdE_bk, hdE_ct, hdE_rt, hdN_nx, hdN_bk, hdN_ct, hdN_rt, fin_rt, fin_nx, fin_ex,
  gc_id, gcX_id, tr_bl, tr_int, tr_non, tr_tup, tr_flst, newT_ok, newL_ok, newT_0, newL_0, newT_1,
  newT_2, newT_3, b_add, b_sub, b_mod, b_addT, b_addO, addO_l, cm_eq, cm_ne, cp_eq, cp_ne,
  cm_in, cm_notin, cm_lt, cm_le, cm_gt, cm_ge, cm_is, cm_isnot, cm_isb, cm_isnotb, cp_lt, cp_le,
  cp_gt, cp_ge, in_non, in_int, in_bl, in_tup, in_flst, in_str, in_obj, in_ins, pu_non, pu_int,
  pu_bl, pu_str, pu_tup, pu_flst, pus_nil, pus_cons, ve_int, ve_str, ve_bl, ve_non, ve_tup, ve_flst,
  vs_nil, vs_cons, vs_nc, vs_cn, ve_nt_i, ve_nt_b, ve_nt_s, ve_nt_t, ve_nt_l, ve_i_n, ve_i_s, ve_i_t,
  ve_i_l, ve_i_b, ve_b_i, ve_b_n, ve_b_s, ve_b_t, ve_b_l, ve_s_n, ve_s_i, ve_s_b, ve_s_t, ve_s_l,
  ve_t_n, ve_t_i, ve_t_b, ve_t_s, ve_t_l, ve_l_n, ve_l_i, ve_l_b, ve_l_s, ve_l_t, vm_nil, vm_cons,
  ty_int, ty_bl, ty_non, ty_str, ty_tup, ty_flst, ty_own, ty_insl, ty_inst, ty_insi, ty_insb, ty_inss,
  ty_obj, tyO_l, tyO_own, tyO_il, tyO_it, tyO_ii, tyO_ib, tyO_is, at_0, at_1, at_2, at_3,
  at_4, ixN_0, ixN_1, ixN_2, ixN_3, ix_tup, ix_flst, ix_obj, ixO_l, bl_abs, bl_int, bl_intb,
  bl_lenT, bl_lenF, bl_lenO, lenO_l, bl_tupT, bl_tupF, bl_tupO, tupO_l, bl_lstO, lstO_l, bl_lstT, bl_lstF,
  bl_min2, bl_max2, il_obj, ilO_l, lm_obj, lmO_app, lmO_pop, setL_ok, stm_tup, stm_flst, stm_obj, stmO_l,
  wt_nil, wt_cons, wtO_l, if_t, if_f, lg_hit, lg_miss, attrOf_obj, atO_i, tr_obj, trO_l, sub_obj,
  subO_l, subI_s, rg_1, rg_2, sg_app, sg_app0, ss_app, ss_app0, sl_app, gc_c2, gcX_c2, gc_db,
  gc_di, gc_dn, gc_ds, if_true, if_false, decide_true, decide_false, Bool.not_true, Bool.not_false, Bool.true_and, Bool.and_true, Bool.false_and,
  Bool.and_false, Bool.or_true, Bool.true_or, Bool.or_false, Bool.false_or, Bool.not_not, List.getElem?_cons_zero, List.getElem?_cons_succ, List.set_cons_zero, List.set_cons_succ, List.length_cons, List.length_nil,
  List.nil_append, List.cons_append, List.append_nil, List.append_assoc, List.isEmpty_cons, List.isEmpty_nil, List.any_cons, List.any_nil, sizeOk_le, Nat.reduceAdd, Nat.reduceLeDiff, Nat.reduceLT,
  Nat.reduceEqDiff, Nat.reduceBEq, Nat.zero_add, Nat.add_zero, Nat.reduceBneDiff, Nat.reduceSub, Nat.reduceMul, Int.reduceEq, Int.reduceLT, Int.reduceLE, Int.reduceNe, Int.reduceAdd,
  Int.reduceSub, Int.reduceMul, Int.reduceNeg, Int.reduceToNat, Int.reduceMod, ne_eq, not_true_eq_false, not_false_eq_true, Int.cast_ofNat_Int, Int.reduceNegSucc, $ls,*])
open Pl
/-! The hand. -/
theorem mixed_ok {n : Nat} {a t : Int} {st : Store} (ha : 0 ≤ a) (ha2 : a < 4294967296) (ht : 0 ≤ t) (ht2 : t ≤ 1000) : callN T (n + 1) 25 [.int a, .int t] st = .ok (.int (mx a t)) st := by
  have e1 := Int.emod_nonneg (a * 39373 + t * 6151 + 50021) (show (2147483399 : Int) ≠ 0 by decide)
  have e2 := Int.emod_lt_of_pos (a * 39373 + t * 6151 + 50021) (show (0 : Int) < 2147483399 by decide)
  have m1 : mulOk a 39373 = true := mulOk_bits (m := 64) (n := 64) (by omega) (by omega) (by decide)
  have m2 : mulOk t 6151 = true := mulOk_bits (m := 64) (n := 64) (by omega) (by omega) (by decide)
  have m3 : mulOk t 81071 = true := mulOk_bits (m := 64) (n := 64) (by omega) (by omega) (by decide)
  generalize ho : (a * 39373 + t * 6151 + 50021) % 2147483399 = o at *
  have m4 : mulOk o o = true := mulOk_bits (m := 64) (n := 64) (by omega) (by omega) (by decide)
  have e3 := Int.emod_nonneg (o * o + t * 81071 + o / 137) (show (2147483629 : Int) ≠ 0 by decide)
  have e4 := Int.emod_lt_of_pos (o * o + t * 81071 + o / 137) (show (0 : Int) < 2147483629 by decide)
  have ew : ∀ w, w = (o * o + t * 81071 + o / 137) % 2147483629 → mulOk w 62089 = true := fun w hw => mulOk_bits (m := 64) (n := 64) (by omega) (by omega) (by decide)
  have m5 := ew _ rfl
  have d1 : (137 : Int).natAbs.log2 < 9000 := by decide
  have d2 : (11 : Int).natAbs.log2 < 9000 := by decide
  have d3 : (64 : Int).natAbs.log2 < 9000 := by decide
  simp! [c__law_mixed, b__law_mixed, b_mul m1, b_mul m2, b_mul m3, ho, b_mul m4, b_div (show (0 : Int) < 137 by decide) d1, b_div (show (0 : Int) < 11 by decide) d2, b_div (show (0 : Int) < 64 by decide) d3, b_mul m5]
  unfold mx
  rw [ho]
theorem log64 {m : Int} (h0 : 0 < m) (h1 : m < 18446744073709551616) : m.natAbs.log2 < 9000 := Nat.lt_trans (log2_bits (m := 64) (by omega)) (by decide)
theorem getD_get {cs : List Nat} {p : Nat} (h : p < cs.length) : atI (cs.map fun c => PV.int (c : Nat)) (p : Int) = some (.int (cs.getD p 0 : Nat)) := by
  rw [at_nat, List.getElem?_map, List.getElem?_eq_getElem h, List.getD_eq_getElem?_getD, List.getElem?_eq_getElem h]; rfl
theorem take_ok {n : Nat} {h : Hd} {m : Int} {tl : Store} (h0 : 0 < m) (h1 : m < 18446744073709551616) : callN T (n + 2) 26 [.obj 1, .int m] (hst h tl) = .ok (.int (tkV h m)) (hst (tkH h m) tl) := by
  have hc := h.hc
  have hp := h.hp
  have hs := h.hs
  have dm := b_div (a := 0) (st := []) h0 (log64 h0 h1)
  have bd : ∀ (a : Int) (st : Store), binop .fdiv (.int a) (.int m) st = .ok (.int (a / m)) st := fun a st => b_div h0 (log64 h0 h1)
  have pw : ∀ st : Store, binop .pow (.int 10) (.int 18) st = .ok (.int 1000000000000000000) st := fun st => by
    rw [b_pow (by decide), show (18 : Int).toNat = 18 from rfl]
    simp only [Int.reducePow]
  by_cases c1 : h.g = 0
  · have c1' : ((h.g : Int) = 0) = True := by simp [c1]
    by_cases c2 : h.p < h.cs.length
    · have c2' : ((h.p : Int) < (h.cs.length : Nat)) = True := eq_true (by omega)
      have c12 : h.g = 0 ∧ h.p < h.cs.length := ⟨c1, c2⟩
      have ga := getD_get c2
      by_cases c3 : h.cs.getD h.p 0 < 1000000000000000000
      · have c3' : (((h.cs.getD h.p 0 : Nat) : Int) < 1000000000000000000) = True := eq_true (by omega)
        have e1 := Int.emod_nonneg ((h.cs.getD h.p 0 : Nat) : Int) (show (2147483399 : Int) ≠ 0 by decide)
        have e2 := Int.emod_lt_of_pos ((h.cs.getD h.p 0 : Nat) : Int) (show (0 : Int) < 2147483399 by decide)
        have hh : hst (tkH h m) tl = .lst (h.cs.map fun c => PV.int (c : Nat)) :: .lst [.obj 0, .int ((h.p : Int) + 1), .int h.g, .int h.s] :: tl := by
          unfold hst tkH tkp tkg tks
          simp only [if_pos c12, if_pos c3, c1, c2, true_and, and_self, not_true_eq_false, and_false, if_true, if_false, Int.natCast_add, Int.cast_ofNat_Int]
        rw [hh]
        unfold tkV
        rw [if_pos c12, if_pos c3]
        simp! [c__law_take, b__law_take, hst, c1', c2', ga, c3', pw, List.length_map, mixed_ok e1 (Int.lt_of_lt_of_le e2 (by decide)) (show (0 : Int) ≤ (h.p : Int) + 1 by omega) (show (h.p : Int) + 1 ≤ 1000 by omega), h0]
      · have c3' : (((h.cs.getD h.p 0 : Nat) : Int) < 1000000000000000000) = False := eq_false (by omega)
        have c4 : ((0 : Int) < ((h.cs.getD h.p 0 : Nat) : Int)) = True := eq_true (by omega)
        have hh : hst (tkH h m) tl = .lst (h.cs.map fun c => PV.int (c : Nat)) :: .lst [.obj 0, .int ((h.p : Int) + 1), .int ((h.cs.getD h.p 0 : Nat) / m), .int h.s] :: tl := by
          unfold hst tkH tkp tkg tks
          simp only [if_pos c12, if_neg c3, c1, c2, true_and, and_self, not_true_eq_false, and_false, if_true, if_false]
          rw [Int.natCast_ediv, Int.toNat_of_nonneg (Int.le_of_lt h0)]
          simp only [Int.natCast_add, Int.cast_ofNat_Int]
        rw [hh]
        unfold tkV
        rw [if_pos c12, if_neg c3]
        simp! [c__law_take, b__law_take, hst, c1', c2', ga, c3', c4, pw, List.length_map, h0, bd]
    · have c2' : ((h.p : Int) < (h.cs.length : Nat)) = False := eq_false (by omega)
      have c12 : ¬ (h.g = 0 ∧ h.p < h.cs.length) := fun z => c2 z.2
      have e1 := Int.emod_nonneg ((h.s : Int) + 1) (show (2147483549 : Int) ≠ 0 by decide)
      have e2 := Int.emod_lt_of_pos ((h.s : Int) + 1) (show (0 : Int) < 2147483549 by decide)
      have hh : hst (tkH h m) tl = .lst (h.cs.map fun c => PV.int (c : Nat)) :: .lst [.obj 0, .int h.p, .int h.g, .int (((h.s : Int) + 1) % 2147483549)] :: tl := by
        unfold hst tkH tkp tkg tks
        simp only [c1, c2, true_and, and_false, not_false_eq_true, if_true, if_false, Nat.zero_div, Int.natCast_emod, Int.natCast_add, Int.cast_ofNat_Int]
      rw [hh]
      unfold tkV
      rw [if_neg c12, if_neg (show ¬ 0 < h.g by omega)]
      have c5 : ((0 : Int) < ((h.g : Nat) : Int)) = False := eq_false (by omega)
      simp! [c__law_take, b__law_take, hst, c1', c2', c5, List.length_map, mixed_ok e1 (Int.lt_of_lt_of_le e2 (by decide)) (show (0 : Int) ≤ (h.p : Int) by omega) (show (h.p : Int) ≤ 1000 by omega), h0]
  · have c1' : ((h.g : Int) = 0) = False := by simp [c1]
    have c12 : ¬ (h.g = 0 ∧ h.p < h.cs.length) := fun z => c1 z.1
    have c5 : ((0 : Int) < ((h.g : Nat) : Int)) = True := eq_true (by omega)
    have hh : hst (tkH h m) tl = .lst (h.cs.map fun c => PV.int (c : Nat)) :: .lst [.obj 0, .int h.p, .int ((h.g : Int) / m), .int h.s] :: tl := by
      unfold hst tkH tkp tkg tks
      simp only [c1, false_and, if_false]
      rw [Int.natCast_ediv, Int.toNat_of_nonneg (Int.le_of_lt h0)]
    rw [hh]
    unfold tkV
    rw [if_neg c12, if_pos (show 0 < h.g by omega)]
    simp! [c__law_take, b__law_take, hst, c1', c5, h0, bd]
theorem hand_loop {n : Nat} {v : PV} : ∀ (ns : List Int) (t : Int) (cs : List Nat) (ks : Option PV), 0 ≤ t → t < 4294967296 → cs.length + ns.length ≤ 63 →
    ∃ (t' : Int) (ks' : Option PV), 0 ≤ t' ∧ t' < 4294967296 ∧ foK (Gd T n none) (.nm 3) l__law_hand_1 [] (ns.map PV.int) [some v, some (.int t), some (.obj 0), ks] [.lst (cs.map fun c => PV.int (c : Nat))] =
      .nx [some v, some (.int t'), some (.obj 0), ks'] [.lst ((cs ++ ns.map Int.natAbs).map fun c => PV.int (c : Nat))]
  | [], t, cs, ks, h0, h1, h2 => ⟨t, ks, h0, h1, by simp! [fo_nil, List.map_nil]⟩
  | i :: ns, t, cs, ks, h0, h1, h2 => by
    rw [List.length_cons] at h2
    have e1 := Int.emod_nonneg (t * 1999 + i) (show (2147483563 : Int) ≠ 0 by decide)
    have e2 := Int.emod_lt_of_pos (t * 1999 + i) (show (0 : Int) < 2147483563 by decide)
    obtain ⟨t', ks', g0, g1, e⟩ := hand_loop (n := n) (v := v) ns ((t * 1999 + i) % 2147483563) (cs ++ [i.natAbs]) (some (.int i)) e1 (Int.lt_trans e2 (by decide)) (by simp; omega)
    refine ⟨t', ks', g0, g1, ?_⟩
    have m1 : mulOk t 1999 = true := mulOk_bits (m := 64) (n := 64) (by omega) (by omega) (by decide)
    have hsz : cs.length + (0 + 1) ≤ 16777216 := by omega
    rw [List.map_append, List.map_cons, List.map_nil] at e
    simp! [fo_cons, ul__law_hand_1, List.map_cons, b_mul m1, abs_if, List.length_append, List.length_map, hsz, e]
theorem hand_ok {n : Nat} {ns : List Int} (hn : ns.length ≤ 63) : ∃ h : Hd, callN T (n + 1) 24 [.flst (ns.map PV.int)] [] = .ok (.obj 1) (hst h []) := by
  obtain ⟨t', ks', h0, h1, e⟩ := hand_loop (n := n) (v := .flst (ns.map PV.int)) ns ((ns.length : Nat) + 57) [] none (by omega) (by omega) (by simpa using hn)
  refine ⟨⟨ns.map Int.natAbs, 0, 0, t'.toNat, by simpa using hn, Nat.zero_le _, by omega⟩, ?_⟩
  rw [List.map_nil, List.nil_append] at e
  have g := gc_keep (st := []) (v := .obj 1) (t := [.lst ((ns.map Int.natAbs).map fun c => PV.int (c : Nat)), .lst [.obj 0, .int 0, .int 0, .int t']]) (by rfl)
  simp! [c__law_hand, b__law_hand, List.length_map, e, hst, g, Int.toNat_of_nonneg h0]
  exact g

end Lk00

set_option Elab.async false
set_option linter.all false
set_option maxRecDepth 100000
set_option maxHeartbeats 4000000
namespace Lk00
open Ev Sg
open PySem (Str)
local macro_rules | `(tactic| simp! [$ls,*]) => `(tactic| simp -implicitDefEqProofs only [
  e_var, vK_s, e_cst, e_bin, bin1_ok, bin2_ok, bin1_ex, bin2_ex, e_neg, neg1_ok, neg1_ex, e_nt,
  nt1_ok, nt1_ex, ntB_s, e_and, and1_ok, and1_ex, andB_t, andB_f, e_or, or1_ok, or1_ex, orB_t,
  orB_f, e_cmp, cmp1_ok, cmp2_ok, cmp1_ex, cmp2_ex, e_cmpD, cmD1_ok, cmD2_ok, cmD1_ex, cmD2_ex, e_chain,
  ch1_ok, ch2_ok, ch3_ok, chB_t, chB_f, ch4_ok, e_ite, ite1_ok, ite1_ex, iteB_t, iteB_f, e_tup,
  tup1_ok, tup1_ex, e_lst, lst1_ok, lst1_ex, es_nil, es_cons, es1_ok, es2_ok, es1_ex, es2_ex, e_call,
  call1_ok, call1_ex, pick_nil, pick_cons, pick1_s, e_callB, callb1_ok, callb1_ex, callb2_s, e_make, make1_ok, make1_ex,
  e_meth, meth1_ok, meth1_ex, methB_s, meth2_ok, meth2_ex, e_attr, attr1_ok, attr1_ex, attrOf_ins, opt_s, e_ix,
  ix1_ok, ix2_ok, ix1_ex, ix2_ex, e_slc, sl1_ok, sl2_ok, sl3_ok, slH_t, slH_f, prt_i, e_rslc,
  rsl1_ok, e_blt, blt_1_ok, blt_1_ex, e_lm, lm1_ok, lm1_ex, lmB_t, lm2_ok, lm2_ex, e_isin, is1_ok,
  is1_ex, isB1_s, ist_nil, ist_cons, istK_t, istK_f, e_xat, e_xis, ext_nil, ext_own, ext_verr, i_rng,
  rng1_ok, rng1_ex, rngK_s, i_revr, rvr1_ok, rvrK_s, i_seq, seqI1_ok, seqI1_ex, i_enm, enm1_ok, enmK_s,
  i_rev, rev1_ok, revK_s, i_zip, zip1_ok, zip2_ok, cpE_ok, e_comp, cp1_ok, cp1_ex, e_comp2, cp2_1_ok,
  cbE_ok, e_bltC, cb1_ok, cb1_ex, e_bltI, bi1_ok, t_nil, t_cons, ts1_ok, tsK_t, tsK_f, cpD_ok,
  cpC_ok, cpB_t, cpB_f, cpA_s, ss_nil, ss_cons, seqK_nx, seqK_rt, seqK_bk, seqK_ct, seqK_ex, s_expr,
  sExpr_ok, sExpr_ex, s_set, sSet_ok, sSet_ex, sFr_s, s_setT, sSetT_ok, sSetT_ex, asg_nm, asg_tp, sa_nil,
  sa_cons, s_par, sPar_ok, sPar_ex, sSt_s, s_sub, sb1_ok, sb1_ex, sb2_ok, sb3_ok, s_attr, sa1_ok,
  sa1_ex, sa2_ok, s_aug, au1_s, au2_add, au2_sub, s_ife, if1_ok, if1_ex, ifB_t, ifB_f, s_for,
  fo1_ok, fo1_ex, foA_s, foB_nx, foB_ct, foB_bk, foB_rt, foB_ex, s_whl, wh1_ok, whB_t, whB_f,
  whC_nx, whC_ct, whC_bk, whC_rt, s_ret, rt1_ok, rt1_ex, s_retN, s_raise, rz1_ok, rz1_ex, s_try,
  tryK_nx, tryK_rt, tryK_bk, tryK_ct, tryK_ex, s_pass, s_brk, s_cnt, h_nil, h_cons, hdB_f, hdB_s,
  hdB_n, hdE_nx, hdE_bk, hdE_ct, hdE_rt, hdN_nx, hdN_bk, hdN_ct, hdN_rt, fin_rt, fin_nx, fin_ex,
  gc_id, gcX_id, tr_bl, tr_int, tr_non, tr_tup, tr_flst, newT_ok, newL_ok, newT_0, newL_0, newT_1,
  newT_2, newT_3, b_add, b_sub, b_mod, b_addT, b_addO, addO_l, cm_eq, cm_ne, cp_eq, cp_ne,
  cm_in, cm_notin, cm_lt, cm_le, cm_gt, cm_ge, cm_is, cm_isnot, cm_isb, cm_isnotb, cp_lt, cp_le,
  cp_gt, cp_ge, in_non, in_int, in_bl, in_tup, in_flst, in_str, in_obj, in_ins, pu_non, pu_int,
  pu_bl, pu_str, pu_tup, pu_flst, pus_nil, pus_cons, ve_int, ve_str, ve_bl, ve_non, ve_tup, ve_flst,
  vs_nil, vs_cons, vs_nc, vs_cn, ve_nt_i, ve_nt_b, ve_nt_s, ve_nt_t, ve_nt_l, ve_i_n, ve_i_s, ve_i_t,
  ve_i_l, ve_i_b, ve_b_i, ve_b_n, ve_b_s, ve_b_t, ve_b_l, ve_s_n, ve_s_i, ve_s_b, ve_s_t, ve_s_l,
  ve_t_n, ve_t_i, ve_t_b, ve_t_s, ve_t_l, ve_l_n, ve_l_i, ve_l_b, ve_l_s, ve_l_t, vm_nil, vm_cons,
  ty_int, ty_bl, ty_non, ty_str, ty_tup, ty_flst, ty_own, ty_insl, ty_inst, ty_insi, ty_insb, ty_inss,
  ty_obj, tyO_l, tyO_own, tyO_il, tyO_it, tyO_ii, tyO_ib, tyO_is, at_0, at_1, at_2, at_3,
  at_4, ixN_0, ixN_1, ixN_2, ixN_3, ix_tup, ix_flst, ix_obj, ixO_l, bl_abs, bl_int, bl_intb,
  bl_lenT, bl_lenF, bl_lenO, lenO_l, bl_tupT, bl_tupF, bl_tupO, tupO_l, bl_lstO, lstO_l, bl_lstT, bl_lstF,
  bl_min2, bl_max2, il_obj, ilO_l, lm_obj, lmO_app, lmO_pop, setL_ok, stm_tup, stm_flst, stm_obj, stmO_l,
  wt_nil, wt_cons, wtO_l, if_t, if_f, lg_hit, lg_miss, attrOf_obj, atO_i, tr_obj, trO_l, sub_obj,
  subO_l, subI_s, rg_1, rg_2, sg_app, sg_app0, ss_app, ss_app0, sl_app, gc_c2, gcX_c2, gc_db,
  gc_di, gc_dn, gc_ds, if_true, if_false, decide_true, decide_false, Bool.not_true, Bool.not_false, Bool.true_and, Bool.and_true, Bool.false_and,
  Bool.and_false, Bool.or_true, Bool.true_or, Bool.or_false, Bool.false_or, Bool.not_not, List.getElem?_cons_zero, List.getElem?_cons_succ, List.set_cons_zero, List.set_cons_succ, List.length_cons, List.length_nil,
  List.nil_append, List.cons_append, List.append_nil, List.append_assoc, List.isEmpty_cons, List.isEmpty_nil, List.any_cons, List.any_nil, sizeOk_le, Nat.reduceAdd, Nat.reduceLeDiff, Nat.reduceLT,
  Nat.reduceEqDiff, Nat.reduceBEq, Nat.zero_add, Nat.add_zero, Nat.reduceBneDiff, Nat.reduceSub, Nat.reduceMul, Int.reduceEq, Int.reduceLT, Int.reduceLE, Int.reduceNe, Int.reduceAdd,
  Int.reduceSub, Int.reduceMul, Int.reduceNeg, Int.reduceToNat, Int.reduceMod, ne_eq, not_true_eq_false, not_false_eq_true, Int.cast_ofNat_Int, Int.reduceNegSucc, $ls,*])
open Pl
/-! Helpers that many laws share. -/
theorem lgcd_loop {n : Nat} {x0 x1 : PV} {st : Store} : ∀ (k : Nat) (xs : List PV) (a b : Int) (ks rs : Option PV), 0 ≤ a → 0 ≤ b → b.natAbs < 2 ^ k → 2 * k + 1 ≤ xs.length →
    foK (Gd T n none) (.nm 4) l__law_gcd_1 [] xs [some x0, some x1, some (.int a), some (.int b), ks, rs] st = .rt (.int (Int.gcd a b)) st
  | k, [], a, b, ks, rs, h1, h2, h3, h4 => by simp at h4
  | k, x :: xs, a, b, ks, rs, h1, h2, h3, h4 => by
    rw [List.length_cons] at h4
    by_cases hz : b = 0
    · subst hz
      simp! [fo_cons, ul__law_gcd_1]
      rw [Int.gcd_zero, Int.natAbs_of_nonneg h1]
    · have hb : 0 < b := by omega
      simp! [fo_cons, ul__law_gcd_1, hz, hb]
      have hr0 := Int.emod_nonneg a (Int.ne_of_gt hb)
      match k, xs, h3, h4 with
      | 0, _, h3, _ => omega
      | k + 1, [], _, h4 => simp at h4
      | k + 1, y :: xs, h3, h4 =>
        rw [List.length_cons] at h4
        by_cases hr : a % b = 0
        · rw [hr]
          simp! [fo_cons, ul__law_gcd_1]
          rw [Int.gcd_comm, ← gcd_step hb h1, hr, Int.zero_gcd, Int.natAbs_of_nonneg h2]
        · have hrp : 0 < a % b := by omega
          simp! [fo_cons, ul__law_gcd_1, hr, hrp]
          have hq0 := Int.emod_nonneg b (Int.ne_of_gt hrp)
          have hh := mod_half hb hrp
          rw [lgcd_loop k xs (a % b) (b % (a % b)) _ _ hr0 hq0 (by rw [Nat.pow_succ] at h3; omega) (by omega), Int.gcd_comm, gcd_step hrp h2, gcd_step hb h1, Int.gcd_comm]
theorem lgcd_ok {n a b st k} (hb : b.natAbs < 2 ^ k) (hk : k ≤ 29990 := by omega) : callN T (n + 1) 27 [.int a, .int b] st = .ok (.int (Int.gcd a b)) st := by
  have hl : (rangeL 0 (60000 : Int).toNat).length = 60000 := by
    unfold rangeL; rw [List.length_map, List.length_range]; rfl
  have e := lgcd_loop (n := n) (x0 := .int a) (x1 := .int b) (st := st) k (rangeL 0 (60000 : Int).toNat) (a.natAbs : Int) (b.natAbs : Int) none none (by omega) (by omega) (by omega) (by rw [hl]; omega)
  have hs : smallI 60000 = true := smallI_of (by omega) (by omega)
  rw [show (60000 : Int).toNat = 60000 from rfl] at e
  simp! [c__law_gcd, b__law_gcd, abs_if, hs, e]
  rw [Int.gcd_natCast_natCast]; rfl
theorem lratio_ok {n a b k st} (hb : b ≠ 0) (hbb : b.natAbs < 2 ^ k) (hk : k ≤ 8999 := by omega) :
    callN T (n + 2) 28 [.int a, .int b] st = .ok (rat (Rat.divInt a b)) st := by
  have hg : ((Int.gcd a b : Nat) : Int) ≠ 0 := by
    have : Int.gcd a b ≠ 0 := fun e => hb (Int.gcd_eq_zero_iff.mp e).2
    omega
  have hl : (Int.gcd a b).log2 < 9000 := Nat.lt_of_lt_of_le (log2_bits (Nat.lt_of_lt_of_le (gcd_lt hb hbb) (Nat.pow_le_pow_right (by decide) (show k ≤ 9000 by omega)))) (Nat.le_refl _)
  have hda : ((Int.gcd a b : Nat) : Int) ∣ a := Int.gcd_dvd_left ..
  have hdb : ((Int.gcd a b : Nat) : Int) ∣ b := Int.gcd_dvd_right ..
  by_cases h2 : b < 0
  · simp! [c__law_ratio, b__law_ratio, h2, lgcd_ok hbb, b_divD (Int.neg_dvd.mpr hda) (Int.neg_ne_zero.mpr hg) (by rw [Int.natAbs_neg]; exact hl), b_divD (Int.neg_dvd.mpr hdb) (Int.neg_ne_zero.mpr hg) (by rw [Int.natAbs_neg]; exact hl)]
    unfold rat
    rw [Rat.num_divInt, Rat.den_divInt, if_neg hb, Int.sign_eq_neg_one_of_neg h2, Int.gcd_comm b a, Int.ediv_neg, Int.ediv_neg, Int.neg_one_mul, Int.neg_ediv_of_dvd hda]
    congr 5
    rw [Int.natCast_ediv, Int.ofNat_natAbs_of_nonpos (by omega), Int.neg_ediv_of_dvd hdb]
  · simp! [c__law_ratio, b__law_ratio, h2, lgcd_ok hbb, b_divD hda hg hl, b_divD hdb hg hl]
    unfold rat
    rw [Rat.num_divInt, Rat.den_divInt, if_neg hb, Int.sign_eq_one_of_pos (by omega), Int.gcd_comm b a, Int.one_mul]
    congr 5
    rw [Int.natCast_ediv, Int.natAbs_of_nonneg (by omega)]
theorem lwhole_i {n a st} : callN T (n + 1) 33 [.int a] st = .ok (.bl true) st := by
  simp! [c__law_whole, b__law_whole]
theorem lwhole_b {n a st} : callN T (n + 1) 33 [.bl a] st = .ok (.bl false) st := by
  simp! [c__law_whole, b__law_whole]
theorem lwhole_n {n st} : callN T (n + 1) 33 [.non] st = .ok (.bl false) st := by
  simp! [c__law_whole, b__law_whole]
theorem lwhole_s {n a st} : callN T (n + 1) 33 [.str a] st = .ok (.bl false) st := by
  simp! [c__law_whole, b__law_whole]
theorem lwhole_t {n a st} : callN T (n + 1) 33 [.tup a] st = .ok (.bl false) st := by
  simp! [c__law_whole, b__law_whole]
theorem lwhole_o {n k xs} {st : Store} (h : st[k]? = some (.lst xs)) : callN T (n + 1) 33 [.obj k] st = .ok (.bl false) st := by
  simp! [c__law_whole, b__law_whole, h]

end Lk00

set_option Elab.async false
set_option linter.all false
set_option maxRecDepth 100000
set_option maxHeartbeats 4000000
namespace Lk00
open Ev Sg
open PySem (Str)
local macro_rules | `(tactic| simp! [$ls,*]) => `(tactic| simp -implicitDefEqProofs only [
  e_var, vK_s, e_cst, e_bin, bin1_ok, bin2_ok, bin1_ex, bin2_ex, e_neg, neg1_ok, neg1_ex, e_nt,
  nt1_ok, nt1_ex, ntB_s, e_and, and1_ok, and1_ex, andB_t, andB_f, e_or, or1_ok, or1_ex, orB_t,
  orB_f, e_cmp, cmp1_ok, cmp2_ok, cmp1_ex, cmp2_ex, e_cmpD, cmD1_ok, cmD2_ok, cmD1_ex, cmD2_ex, e_chain,
  ch1_ok, ch2_ok, ch3_ok, chB_t, chB_f, ch4_ok, e_ite, ite1_ok, ite1_ex, iteB_t, iteB_f, e_tup,
  tup1_ok, tup1_ex, e_lst, lst1_ok, lst1_ex, es_nil, es_cons, es1_ok, es2_ok, es1_ex, es2_ex, e_call,
  call1_ok, call1_ex, pick_nil, pick_cons, pick1_s, e_callB, callb1_ok, callb1_ex, callb2_s, e_make, make1_ok, make1_ex,
  e_meth, meth1_ok, meth1_ex, methB_s, meth2_ok, meth2_ex, e_attr, attr1_ok, attr1_ex, attrOf_ins, opt_s, e_ix,
  ix1_ok, ix2_ok, ix1_ex, ix2_ex, e_slc, sl1_ok, sl2_ok, sl3_ok, slH_t, slH_f, prt_i, e_rslc,
  rsl1_ok, e_blt, blt_1_ok, blt_1_ex, e_lm, lm1_ok, lm1_ex, lmB_t, lm2_ok, lm2_ex, e_isin, is1_ok,
  is1_ex, isB1_s, ist_nil, ist_cons, istK_t, istK_f, e_xat, e_xis, ext_nil, ext_own, ext_verr, i_rng,
  rng1_ok, rng1_ex, rngK_s, i_revr, rvr1_ok, rvrK_s, i_seq, seqI1_ok, seqI1_ex, i_enm, enm1_ok, enmK_s,
  i_rev, rev1_ok, revK_s, i_zip, zip1_ok, zip2_ok, cpE_ok, e_comp, cp1_ok, cp1_ex, e_comp2, cp2_1_ok,
  cbE_ok, e_bltC, cb1_ok, cb1_ex, e_bltI, bi1_ok, t_nil, t_cons, ts1_ok, tsK_t, tsK_f, cpD_ok,
  cpC_ok, cpB_t, cpB_f, cpA_s, ss_nil, ss_cons, seqK_nx, seqK_rt, seqK_bk, seqK_ct, seqK_ex, s_expr,
  sExpr_ok, sExpr_ex, s_set, sSet_ok, sSet_ex, sFr_s, s_setT, sSetT_ok, sSetT_ex, asg_nm, asg_tp, sa_nil,
  sa_cons, s_par, sPar_ok, sPar_ex, sSt_s, s_sub, sb1_ok, sb1_ex, sb2_ok, sb3_ok, s_attr, sa1_ok,
  sa1_ex, sa2_ok, s_aug, au1_s, au2_add, au2_sub, s_ife, if1_ok, if1_ex, ifB_t, ifB_f, s_for,
  fo1_ok, fo1_ex, foA_s, foB_nx, foB_ct, foB_bk, foB_rt, foB_ex, s_whl, wh1_ok, whB_t, whB_f,
  whC_nx, whC_ct, whC_bk, whC_rt, s_ret, rt1_ok, rt1_ex, s_retN, s_raise, rz1_ok, rz1_ex, s_try,
  tryK_nx, tryK_rt, tryK_bk, tryK_ct, tryK_ex, s_pass, s_brk, s_cnt, h_nil, h_cons, hdB_f, hdB_s,
  hdB_n, hdE_nx, hdE_bk, hdE_ct, hdE_rt, hdN_nx, hdN_bk, hdN_ct, hdN_rt, fin_rt, fin_nx, fin_ex,
  gc_id, gcX_id, tr_bl, tr_int, tr_non, tr_tup, tr_flst, newT_ok, newL_ok, newT_0, newL_0, newT_1,
  newT_2, newT_3, b_add, b_sub, b_mod, b_addT, b_addO, addO_l, cm_eq, cm_ne, cp_eq, cp_ne,
  cm_in, cm_notin, cm_lt, cm_le, cm_gt, cm_ge, cm_is, cm_isnot, cm_isb, cm_isnotb, cp_lt, cp_le,
  cp_gt, cp_ge, in_non, in_int, in_bl, in_tup, in_flst, in_str, in_obj, in_ins, pu_non, pu_int,
  pu_bl, pu_str, pu_tup, pu_flst, pus_nil, pus_cons, ve_int, ve_str, ve_bl, ve_non, ve_tup, ve_flst,
  vs_nil, vs_cons, vs_nc, vs_cn, ve_nt_i, ve_nt_b, ve_nt_s, ve_nt_t, ve_nt_l, ve_i_n, ve_i_s, ve_i_t,
  ve_i_l, ve_i_b, ve_b_i, ve_b_n, ve_b_s, ve_b_t, ve_b_l, ve_s_n, ve_s_i, ve_s_b, ve_s_t, ve_s_l,
  ve_t_n, ve_t_i, ve_t_b, ve_t_s, ve_t_l, ve_l_n, ve_l_i, ve_l_b, ve_l_s, ve_l_t, vm_nil, vm_cons,
  ty_int, ty_bl, ty_non, ty_str, ty_tup, ty_flst, ty_own, ty_insl, ty_inst, ty_insi, ty_insb, ty_inss,
  ty_obj, tyO_l, tyO_own, tyO_il, tyO_it, tyO_ii, tyO_ib, tyO_is, at_0, at_1, at_2, at_3,
  at_4, ixN_0, ixN_1, ixN_2, ixN_3, ix_tup, ix_flst, ix_obj, ixO_l, bl_abs, bl_int, bl_intb,
  bl_lenT, bl_lenF, bl_lenO, lenO_l, bl_tupT, bl_tupF, bl_tupO, tupO_l, bl_lstO, lstO_l, bl_lstT, bl_lstF,
  bl_min2, bl_max2, il_obj, ilO_l, lm_obj, lmO_app, lmO_pop, setL_ok, stm_tup, stm_flst, stm_obj, stmO_l,
  wt_nil, wt_cons, wtO_l, if_t, if_f, lg_hit, lg_miss, attrOf_obj, atO_i, tr_obj, trO_l, sub_obj,
  subO_l, subI_s, rg_1, rg_2, sg_app, sg_app0, ss_app, ss_app0, sl_app, gc_c2, gcX_c2, gc_db,
  gc_di, gc_dn, gc_ds, if_true, if_false, decide_true, decide_false, Bool.not_true, Bool.not_false, Bool.true_and, Bool.and_true, Bool.false_and,
  Bool.and_false, Bool.or_true, Bool.true_or, Bool.or_false, Bool.false_or, Bool.not_not, List.getElem?_cons_zero, List.getElem?_cons_succ, List.set_cons_zero, List.set_cons_succ, List.length_cons, List.length_nil,
  List.nil_append, List.cons_append, List.append_nil, List.append_assoc, List.isEmpty_cons, List.isEmpty_nil, List.any_cons, List.any_nil, sizeOk_le, Nat.reduceAdd, Nat.reduceLeDiff, Nat.reduceLT,
  Nat.reduceEqDiff, Nat.reduceBEq, Nat.zero_add, Nat.add_zero, Nat.reduceBneDiff, Nat.reduceSub, Nat.reduceMul, Int.reduceEq, Int.reduceLT, Int.reduceLE, Int.reduceNe, Int.reduceAdd,
  Int.reduceSub, Int.reduceMul, Int.reduceNeg, Int.reduceToNat, Int.reduceMod, ne_eq, not_true_eq_false, not_false_eq_true, Int.cast_ofNat_Int, Int.reduceNegSucc, $ls,*])
open Pl
/-! drawing -/
def topV (h : Hd) : Int := if tkV h 4 = 0 then tkV (tkH h 4) 1000000000 - 500000000 else tkV (tkH h 4) 81 - 40
def topH (h : Hd) : Hd := if tkV h 4 = 0 then tkH (tkH h 4) 1000000000 else tkH (tkH h 4) 81
theorem top_lt {h : Hd} : (topV h).natAbs < 2 ^ 30 := by
  unfold topV
  split
  · have h1 := tk_nn (h := tkH h 4) (m := 1000000000) (by decide)
    have h2 := tk_lt (h := tkH h 4) (m := 1000000000) (by decide)
    omega
  · have h1 := tk_nn (h := tkH h 4) (m := 81) (by decide)
    have h2 := tk_lt (h := tkH h 4) (m := 81) (by decide)
    omega
theorem pow10 (k : Int) (st : Store) (h0 : 0 ≤ k) (h1 : k ≤ 1000000) : binop .pow (.int 10) (.int k) st = .ok (.int (10 ^ k.toNat)) st := b_pow (by
  rw [decide_eq_true h0, decide_eq_true h1]; rfl)
theorem top_ok {n h tl} : callN T (n + 3) 29 [.obj 1] (hst h tl) = .ok (.int (topV h)) (hst (topH h) tl) := by
  have m1 : mulOk 5 100000000 = true := mulOk_bits (m := 64) (n := 64) (by decide) (by decide) (by decide)
  unfold topV topH
  by_cases c : tkV h 4 = 0
  · rw [if_pos c, if_pos c]
    simp! [c__law_top, b__law_top, take_ok, c, pow10, Int.reducePow, b_mul m1]
    exact gc_c2
  · rw [if_neg c, if_neg c]
    simp! [c__law_top, b__law_top, take_ok, c]
    exact gc_c2
def frV (h : Hd) : Rat := Rat.divInt (topV h) (1 + tkV (topH h) 12)
def frH (h : Hd) : Hd := tkH (topH h) 12
theorem fr_sz {h : Hd} : Sz 30 (frV h) := by
  have h1 := tk_nn (h := topH h) (m := 12) (by decide)
  have h2 := tk_lt (h := topH h) (m := 12) (by decide)
  exact Sz.div top_lt (by omega) (by omega)
theorem fr_ok {n h tl} : callN T (n + 4) 30 [.obj 1] (hst h tl) = .ok (rat (frV h)) (hst (frH h) tl) := by
  have h1 := tk_nn (h := topH h) (m := 12) (by decide)
  have h2 := tk_lt (h := topH h) (m := 12) (by decide)
  have e := fun st => lratio_ok (n := n + 1) (st := st) (a := topV h) (b := 1 + tkV (topH h) 12) (k := 30) (by omega) (by omega)
  unfold frV frH
  simp! [c__law_fraction, b__law_fraction, top_ok, take_ok, e]
  exact gc_c2
/-! same -/
theorem veq_rat {a b : Rat} : veq (rat a) (rat b) = decide (a = b) := FK.enc_eq a b
theorem pur_rat {n} {a : Rat} : pur (n + 2) (rat a) = true := FK.enc_pur a n
theorem same_r {n a b st} : callN T (n + 2) 32 [rat a, rat b] st = .ok (.bl (decide (a = b))) st := by
  have h := veq_rat (a := a) (b := b)
  unfold rat at h ⊢
  rw [ve_tup, vs_cons, vs_cons, vs_nil, ve_int, ve_int, Bool.and_true] at h
  simp! [c__law_same, b__law_same, lwhole_i]
  rw [h]
theorem same_rt {n a i j st} : callN T (n + 2) 32 [rat a, .tup [.int i, .int j]] st = .ok (.bl (decide (a.num = i) && decide ((a.den : Int) = j))) st := by
  unfold rat
  simp! [c__law_same, b__law_same, lwhole_i]
theorem same_i {n a b st} : callN T (n + 2) 32 [.int a, .int b] st = .ok (.bl (decide (a = b))) st := by
  simp! [c__law_same, b__law_same, lwhole_i]
def sgn (i : Int) : Int := if i < 0 then -1 else if 0 < i then 1 else 0
theorem sign_ok {n i st} : callN T (n + 1) 34 [.int i] st = .ok (.int (sgn i)) st := by
  unfold sgn
  by_cases h : i < 0
  · simp! [c__law_sign, b__law_sign, h]
  · by_cases h2 : 0 < i
    · simp! [c__law_sign, b__law_sign, h, h2]
    · simp! [c__law_sign, b__law_sign, h, h2]
theorem cmp_sgn (a b : Rat) : rcmp a b = sgn (a.num * b.den - b.num * a.den) := by
  unfold rcmp sgn
  repeat' split
  all_goals omega
/-! the deeds of two ratios -/
theorem ratios_ok {n a b j st} (ha : Sz j a) (hb : Sz j b) (hj : j ≤ 2000) : callN T (n + 6) 35 [rat a, rat b] st = .ok (.bl true) st := by
  have P1 : 2 ^ j ≤ 2 ^ (j + 1) := Nat.pow_le_pow_right (by decide) (by omega)
  have m1 : mulOk a.num b.den = true := mulOk_bits (m := j + 1) (n := j + 1) (Nat.lt_of_lt_of_le ha.1 P1) (Nat.lt_of_lt_of_le hb.2 P1) (by omega) (by omega) (by omega)
  have m2 : mulOk b.num a.den = true := mulOk_bits (m := j + 1) (n := j + 1) (Nat.lt_of_lt_of_le hb.1 P1) (Nat.lt_of_lt_of_le ha.2 P1) (by omega) (by omega) (by omega)
  have m3 : mulOk a.den b.den = true := mulOk_bits (m := j + 1) (n := j + 1) (Nat.lt_of_lt_of_le ha.2 P1) (Nat.lt_of_lt_of_le hb.2 P1) (by omega) (by omega) (by omega)
  have m4 : mulOk a.num b.num = true := mulOk_bits (m := j + 1) (n := j + 1) (Nat.lt_of_lt_of_le ha.1 P1) (Nat.lt_of_lt_of_le hb.1 P1) (by omega) (by omega) (by omega)
  have m5 : mulOk a.den b.num = true := mulOk_bits (m := j + 1) (n := j + 1) (Nat.lt_of_lt_of_le ha.2 P1) (Nat.lt_of_lt_of_le hb.1 P1) (by omega) (by omega) (by omega)
  have hd : (a.den * b.den : Int).natAbs < 2 ^ (j + j) := by rw [Int.natAbs_mul]; exact mul_lt_pow ha.2 hb.2
  have hq : (a.den * b.num : Int).natAbs < 2 ^ (j + j) := by rw [Int.natAbs_mul]; exact mul_lt_pow ha.2 hb.1
  have e1 := fun st => rplus_ok (n := n + 2) (st := st) ha hb (by omega)
  have e2 := fun st => rminus_ok (n := n + 1) (st := st) ha hb (by omega)
  have e3 := fun st => rtimes_ok (n := n + 2) (st := st) ha hb (by omega)
  have e4 := fun st => rcmp_ok (n := n + 4) (st := st) ha hb (by omega)
  have e5 := fun (h0 : b ≠ 0) st => rover_ok (n := n + 2) (st := st) ha hb h0 (by omega)
  have d1 := fun st => lratio_ok (n := n + 3) (st := st) (a := a.num * b.den + b.num * a.den) (Int.mul_ne_zero (den_ne a) (den_ne b)) hd (by omega)
  have d2 := fun st => lratio_ok (n := n + 3) (st := st) (a := a.num * b.den - b.num * a.den) (Int.mul_ne_zero (den_ne a) (den_ne b)) hd (by omega)
  have d3 := fun st => lratio_ok (n := n + 3) (st := st) (a := a.num * b.num) (Int.mul_ne_zero (den_ne a) (den_ne b)) hd (by omega)
  have d5 := fun (h0 : b.num ≠ 0) st => lratio_ok (n := n + 3) (st := st) (a := a.num * b.den) (Int.mul_ne_zero (den_ne a) h0) hq (by omega)
  have r1 := fun st => isratio_ok (n := n + 3) (st := st) (Sz.add ha hb) (by omega)
  have r2 := fun st => isratio_ok (n := n + 3) (st := st) (Sz.add ha hb.neg) (by omega)
  have r3 := fun st => isratio_ok (n := n + 3) (st := st) (Sz.mul ha hb) (by omega)
  rw [← Rat.sub_eq_add_neg] at r2
  rw [← rat_add] at d1
  rw [← rat_sub] at d2
  rw [← rat_mul] at d3
  have xa : ∀ st, index (rat a) (.int 0) st = .ok (.int a.num) st := fun st => rfl
  have xb : ∀ st, index (rat b) (.int 0) st = .ok (.int b.num) st := fun st => rfl
  have ya : ∀ st, index (rat a) (.int 1) st = .ok (.int a.den) st := fun st => rfl
  have yb : ∀ st, index (rat b) (.int 1) st = .ok (.int b.den) st := fun st => rfl
  by_cases h0 : b = 0
  · have hn : b.num = 0 := by rw [h0]; rfl
    have e6 := fun st => rover_0 (n := n + 2) (a := a) (st := st)
    rw [← h0] at e6
    simp! [c__law_ratios, b__law_ratios, e1, e2, e3, e4, e6, d1, d2, d3, xa, xb, ya, yb, b_mul m1, b_mul m2, b_mul m3, b_mul m4, fo_cons, fo_nil, ul__law_ratios_1, same_r, r1, r2, r3, lwhole_i, sign_ok, cmp_sgn, (eq_true hn : (b.num = 0) = True), sub_DividedByNought]
  · have hn : b.num ≠ 0 := fun e => h0 (Rat.num_eq_zero.mp e)
    have d5 := d5 hn
    rw [← rat_div] at d5
    simp! [c__law_ratios, b__law_ratios, e1, e2, e3, e4, e5 h0, d1, d2, d3, d5, xa, xb, ya, yb, b_mul m1, b_mul m2, b_mul m3, b_mul m4, b_mul m5, fo_cons, fo_nil, ul__law_ratios_1, same_r, r1, r2, r3, lwhole_i, sign_ok, cmp_sgn, hn]

end Lk00

set_option Elab.async false
set_option linter.all false
set_option maxRecDepth 100000
set_option maxHeartbeats 4000000
namespace Lk00
open Ev Sg
open PySem (Str)
local macro_rules | `(tactic| simp! [$ls,*]) => `(tactic| simp -implicitDefEqProofs only [
  e_var, vK_s, e_cst, e_bin, bin1_ok, bin2_ok, bin1_ex, bin2_ex, e_neg, neg1_ok, neg1_ex, e_nt,
  nt1_ok, nt1_ex, ntB_s, e_and, and1_ok, and1_ex, andB_t, andB_f, e_or, or1_ok, or1_ex, orB_t,
  orB_f, e_cmp, cmp1_ok, cmp2_ok, cmp1_ex, cmp2_ex, e_cmpD, cmD1_ok, cmD2_ok, cmD1_ex, cmD2_ex, e_chain,
  ch1_ok, ch2_ok, ch3_ok, chB_t, chB_f, ch4_ok, e_ite, ite1_ok, ite1_ex, iteB_t, iteB_f, e_tup,
  tup1_ok, tup1_ex, e_lst, lst1_ok, lst1_ex, es_nil, es_cons, es1_ok, es2_ok, es1_ex, es2_ex, e_call,
  call1_ok, call1_ex, pick_nil, pick_cons, pick1_s, e_callB, callb1_ok, callb1_ex, callb2_s, e_make, make1_ok, make1_ex,
  e_meth, meth1_ok, meth1_ex, methB_s, meth2_ok, meth2_ex, e_attr, attr1_ok, attr1_ex, attrOf_ins, opt_s, e_ix,
  ix1_ok, ix2_ok, ix1_ex, ix2_ex, e_slc, sl1_ok, sl2_ok, sl3_ok, slH_t, slH_f, prt_i, e_rslc,
  rsl1_ok, e_blt, blt_1_ok, blt_1_ex, e_lm, lm1_ok, lm1_ex, lmB_t, lm2_ok, lm2_ex, e_isin, is1_ok,
  is1_ex, isB1_s, ist_nil, ist_cons, istK_t, istK_f, e_xat, e_xis, ext_nil, ext_own, ext_verr, i_rng,
  rng1_ok, rng1_ex, rngK_s, i_revr, rvr1_ok, rvrK_s, i_seq, seqI1_ok, seqI1_ex, i_enm, enm1_ok, enmK_s,
  i_rev, rev1_ok, revK_s, i_zip, zip1_ok, zip2_ok, cpE_ok, e_comp, cp1_ok, cp1_ex, e_comp2, cp2_1_ok,
  cbE_ok, e_bltC, cb1_ok, cb1_ex, e_bltI, bi1_ok, t_nil, t_cons, ts1_ok, tsK_t, tsK_f, cpD_ok,
  cpC_ok, cpB_t, cpB_f, cpA_s, ss_nil, ss_cons, seqK_nx, seqK_rt, seqK_bk, seqK_ct, seqK_ex, s_expr,
  sExpr_ok, sExpr_ex, s_set, sSet_ok, sSet_ex, sFr_s, s_setT, sSetT_ok, sSetT_ex, asg_nm, asg_tp, sa_nil,
  sa_cons, s_par, sPar_ok, sPar_ex, sSt_s, s_sub, sb1_ok, sb1_ex, sb2_ok, sb3_ok, s_attr, sa1_ok,
  sa1_ex, sa2_ok, s_aug, au1_s, au2_add, au2_sub, s_ife, if1_ok, if1_ex, ifB_t, ifB_f, s_for,
  fo1_ok, fo1_ex, foA_s, foB_nx, foB_ct, foB_bk, foB_rt, foB_ex, s_whl, wh1_ok, whB_t, whB_f,
  whC_nx, whC_ct, whC_bk, whC_rt, s_ret, rt1_ok, rt1_ex, s_retN, s_raise, rz1_ok, rz1_ex, s_try,
  tryK_nx, tryK_rt, tryK_bk, tryK_ct, tryK_ex, s_pass, s_brk, s_cnt, h_nil, h_cons, hdB_f, hdB_s,
  hdB_n, hdE_nx, hdE_bk, hdE_ct, hdE_rt, hdN_nx, hdN_bk, hdN_ct, hdN_rt, fin_rt, fin_nx, fin_ex,
  gc_id, gcX_id, tr_bl, tr_int, tr_non, tr_tup, tr_flst, newT_ok, newL_ok, newT_0, newL_0, newT_1,
  newT_2, newT_3, b_add, b_sub, b_mod, b_addT, b_addO, addO_l, cm_eq, cm_ne, cp_eq, cp_ne,
  cm_in, cm_notin, cm_lt, cm_le, cm_gt, cm_ge, cm_is, cm_isnot, cm_isb, cm_isnotb, cp_lt, cp_le,
  cp_gt, cp_ge, in_non, in_int, in_bl, in_tup, in_flst, in_str, in_obj, in_ins, pu_non, pu_int,
  pu_bl, pu_str, pu_tup, pu_flst, pus_nil, pus_cons, ve_int, ve_str, ve_bl, ve_non, ve_tup, ve_flst,
  vs_nil, vs_cons, vs_nc, vs_cn, ve_nt_i, ve_nt_b, ve_nt_s, ve_nt_t, ve_nt_l, ve_i_n, ve_i_s, ve_i_t,
  ve_i_l, ve_i_b, ve_b_i, ve_b_n, ve_b_s, ve_b_t, ve_b_l, ve_s_n, ve_s_i, ve_s_b, ve_s_t, ve_s_l,
  ve_t_n, ve_t_i, ve_t_b, ve_t_s, ve_t_l, ve_l_n, ve_l_i, ve_l_b, ve_l_s, ve_l_t, vm_nil, vm_cons,
  ty_int, ty_bl, ty_non, ty_str, ty_tup, ty_flst, ty_own, ty_insl, ty_inst, ty_insi, ty_insb, ty_inss,
  ty_obj, tyO_l, tyO_own, tyO_il, tyO_it, tyO_ii, tyO_ib, tyO_is, at_0, at_1, at_2, at_3,
  at_4, ixN_0, ixN_1, ixN_2, ixN_3, ix_tup, ix_flst, ix_obj, ixO_l, bl_abs, bl_int, bl_intb,
  bl_lenT, bl_lenF, bl_lenO, lenO_l, bl_tupT, bl_tupF, bl_tupO, tupO_l, bl_lstO, lstO_l, bl_lstT, bl_lstF,
  bl_min2, bl_max2, il_obj, ilO_l, lm_obj, lmO_app, lmO_pop, setL_ok, stm_tup, stm_flst, stm_obj, stmO_l,
  wt_nil, wt_cons, wtO_l, if_t, if_f, lg_hit, lg_miss, attrOf_obj, atO_i, tr_obj, trO_l, sub_obj,
  subO_l, subI_s, rg_1, rg_2, sg_app, sg_app0, ss_app, ss_app0, sl_app, gc_c2, gcX_c2, gc_db,
  gc_di, gc_dn, gc_ds, if_true, if_false, decide_true, decide_false, Bool.not_true, Bool.not_false, Bool.true_and, Bool.and_true, Bool.false_and,
  Bool.and_false, Bool.or_true, Bool.true_or, Bool.or_false, Bool.false_or, Bool.not_not, List.getElem?_cons_zero, List.getElem?_cons_succ, List.set_cons_zero, List.set_cons_succ, List.length_cons, List.length_nil,
  List.nil_append, List.cons_append, List.append_nil, List.append_assoc, List.isEmpty_cons, List.isEmpty_nil, List.any_cons, List.any_nil, sizeOk_le, Nat.reduceAdd, Nat.reduceLeDiff, Nat.reduceLT,
  Nat.reduceEqDiff, Nat.reduceBEq, Nat.zero_add, Nat.add_zero, Nat.reduceBneDiff, Nat.reduceSub, Nat.reduceMul, Int.reduceEq, Int.reduceLT, Int.reduceLE, Int.reduceNe, Int.reduceAdd,
  Int.reduceSub, Int.reduceMul, Int.reduceNeg, Int.reduceToNat, Int.reduceMod, ne_eq, not_true_eq_false, not_false_eq_true, Int.cast_ofNat_Int, Int.reduceNegSucc, $ls,*])
open Pl
/-! by a prime -/
theorem rests_ok {n p : Nat} [hp : Pr p] {a b : Zp p} {st : Store} : callN T (n + 7) 37 [figV (Zp p), .int p, .int a.v, .int b.v] st = .ok (.bl true) st := by
  have hp0 : (0 : Int) < p := by have := hp.pos; omega
  have hp1 := hp.le
  have ha := a.lt
  have hb := b.lt
  have tv : ∀ x : Zp p, FK.sz 1 x := fun x => trivial
  have e1 := fun st => FigOK.plus (n := n + 1) (st := st) (tv a) (tv b) (by decide)
  have e2 := fun st => FigOK.minus (n := n + 1) (st := st) (tv a) (tv b) (by decide)
  have e3 := fun st => FigOK.times (n := n + 1) (st := st) (tv a) (tv b) (by decide)
  have e4 := fun st => FigOK.negative (n := n + 1) (st := st) (a := a)
  have e5 := fun st => FigOK.compare (n := n + 1) (st := st) (tv a) (tv b) (by decide)
  have e6 := fun (h0 : b ≠ 0) st => FigOK.over (n := n + 1) (st := st) (tv a) (tv b) h0 (by decide)
  have e7 := fun st => FigOK.over0 (n := n + 1) (st := st) (a := a)
  have v1 : ((a + b).v : Int) = ((a.v : Int) + b.v) % p := by rw [Zp.v_add, emod_nat, Int.natCast_add]
  have v2 : ((a - b).v : Int) = ((a.v : Int) - b.v) % p := by
    have e : ((a.v + (p - b.v) : Nat) : Int) = ((a.v : Int) - b.v) + p := by omega
    rw [Zp.v_sub, emod_nat, e, Int.add_emod_right]
  have v3 : ((a * b).v : Int) = ((a.v : Int) * b.v) % p := by rw [Zp.v_mul, emod_nat, Int.natCast_mul]
  have v4 : ((-a).v : Int) = ((p : Int) - a.v) % p := by
    rw [Zp.v_neg, emod_nat, Int.natCast_sub (by omega)]
  have v5 : FK.cmp a b = sgn ((a.v : Int) - b.v) := by
    show (if (a.v : Int) < b.v then -1 else if (b.v : Int) < a.v then 1 else 0) = _
    unfold sgn
    repeat' split
    all_goals omega
  have m1 : mulOk (a.v : Int) b.v = true := mulOk_bits (m := 8) (n := 8) (by omega) (by omega) (by decide)
  simp only [enc_zp] at e1 e2 e3 e4 e5 e6 e7
  by_cases h0 : b = 0
  · have hb0 : ((b.v : Int) = 0) = True := eq_true (by rw [h0, Zp.v_0]; rfl)
    have e7 : ∀ st, callN T (n + 1 + 5) 17 [figV (Zp p), PV.int a.v, PV.int b.v] st = .exc 2 [] [] st := fun st => by
      have := e7 st
      rw [← h0] at this
      exact this
    simp! [c__law_rests, b__law_rests, m_fig_plus, m_fig_minus, m_fig_times, m_fig_over, m_fig_negative, m_fig_compare, e1, e2, e3, e4, e5, e7, enc_zp, hp0, b_mul m1, fo_cons, fo_nil, ul__law_rests_1, same_i, v1, v2, v3, v4, v5, sign_ok, hb0, sub_DividedByNought]
  · have hb0 : ((b.v : Int) = 0) = False := eq_false (fun e => h0 (Zp.ext' (by rw [Zp.v_0]; omega)))
    have e6 := e6 h0
    have hl := (a / b).lt
    have hn : (0 ≤ ((a / b).v : Int)) = True := eq_true (by omega)
    have hlt : (((a / b).v : Int) < p) = True := eq_true (by omega)
    have m2 : mulOk ((a / b).v : Int) b.v = true := mulOk_bits (m := 8) (n := 8) (by omega) (by omega) (by decide)
    have hm : ((a / b).v : Int) * b.v % p = a.v := by
      have e : (a / b) * b = a := fdiv_mul h0
      have e2 : ((a / b * b).v : Int) = ((a / b).v : Int) * b.v % p := by rw [Zp.v_mul, emod_nat, Int.natCast_mul]
      rw [← e2, e]
    simp! [c__law_rests, b__law_rests, m_fig_plus, m_fig_minus, m_fig_times, m_fig_over, m_fig_negative, m_fig_compare, e1, e2, e3, e4, e5, e6, enc_zp, hp0, b_mul m1, fo_cons, fo_nil, ul__law_rests_1, same_i, v1, v2, v3, v4, v5, sign_ok, hb0, lwhole_i, hn, hlt, b_mul m2, hm]
/-! in fractions -/
theorem fractions_ok {n a b j st} (ha : Sz j a) (hb : Sz j b) (hj : j ≤ 2000) : callN T (n + 7) 38 [figV Rat, rat a, rat b] st = .ok (.bl true) st := by
  have e1 := fun st => FigOK.plus (K := Rat) (n := n + 1) (st := st) (a := a) (b := b) ha hb (by omega)
  have e2 := fun st => FigOK.minus (K := Rat) (n := n + 1) (st := st) (a := a) (b := b) ha hb (by omega)
  have e3 := fun st => FigOK.times (K := Rat) (n := n + 1) (st := st) (a := a) (b := b) ha hb (by omega)
  have e4 := fun st => FigOK.negative (K := Rat) (n := n + 1) (st := st) (a := a)
  have e5 := fun st => FigOK.compare (K := Rat) (n := n + 1) (st := st) (a := a) (b := b) ha hb (by omega)
  have e6 := fun (h0 : b ≠ 0) st => FigOK.over (K := Rat) (n := n + 1) (st := st) (a := a) (b := b) ha hb h0 (by omega)
  have e7 := fun st => FigOK.over0 (K := Rat) (n := n + 1) (st := st) (a := a)
  have f1 := fun st => rplus_ok (n := n + 3) (st := st) ha hb (by omega)
  have f2 := fun st => rminus_ok (n := n + 2) (st := st) ha hb (by omega)
  have f3 := fun st => rtimes_ok (n := n + 3) (st := st) ha hb (by omega)
  have f5 := fun st => rcmp_ok (n := n + 5) (st := st) ha hb (by omega)
  have f6 := fun (h0 : b ≠ 0) st => rover_ok (n := n + 3) (st := st) ha hb h0 (by omega)
  have ec : FK.cmp a b = rcmp a b := rfl
  have xa : ∀ st, index (rat a) (.int 0) st = .ok (.int a.num) st := fun st => rfl
  have xb : ∀ st, index (rat b) (.int 0) st = .ok (.int b.num) st := fun st => rfl
  have ya : ∀ st, index (rat a) (.int 1) st = .ok (.int a.den) st := fun st => rfl
  simp only [enc_rat] at e1 e2 e3 e4 e5 e6 e7
  by_cases h0 : b = 0
  · have hn : (b.num = 0) = True := eq_true (by rw [h0]; rfl)
    have e7 : ∀ st, callN T (n + 1 + 5) 17 [figV Rat, rat a, rat b] st = .exc 2 [] [] st := fun st => by rw [h0]; exact e7 st
    simp! [c__law_fractions, b__law_fractions, m_fig_plus, m_fig_minus, m_fig_times, m_fig_over, m_fig_negative, m_fig_compare, e1, e2, e3, e4, e5, e7, f1, f2, f3, f5, ec, veq_rat, pur_rat, xa, xb, ya, same_rt, Rat.neg_num, Rat.neg_den, hn, sub_DividedByNought]
  · have hn : (b.num = 0) = False := eq_false (fun e => h0 (Rat.num_eq_zero.mp e))
    simp! [c__law_fractions, b__law_fractions, m_fig_plus, m_fig_minus, m_fig_times, m_fig_over, m_fig_negative, m_fig_compare, e1, e2, e3, e4, e5, e6 h0, f1, f2, f3, f5, f6 h0, ec, veq_rat, pur_rat, xa, xb, ya, same_rt, Rat.neg_num, Rat.neg_den, hn]
/-! read -/
theorem read_rat {n q i st} : callN T (n + 7) 39 [figV Rat, .int 0, rat q, .int i] st = .ok (.bl true) st := by
  have e1 := fun st => FigOK.whole_number (K := Rat) (n := n + 1) (st := st) (i := i)
  have e : (FK.enc (FK.ofInt i : Rat)) = rat (i : Rat) := rfl
  rw [e] at e1
  have e2 := fun st => numof_rat (n := n) (st := st) (q := q)
  have e3 := fun st => alln_rat (n := n + 5) (st := st)
  simp! [c__law_read, b__law_read, m_fig_whole_number, m_fig_number_of, m_fig_all_numbers, e1, e2, e3, same_rt, same_r, Rat.num_intCast, Rat.den_intCast]
theorem comp_range {n : Nat} {fr : Frame} {st : Store} (f : PV → Frame) (hf : ∀ x, fr.set 8 (some x) = f x) (hg : ∀ x, (f x)[8]? = some (some x)) : ∀ xs, cpK (Gd T n none) (.nm 8) [] k__law_read_1 [] fr xs st = .ok xs st
  | [] => by simp! [cp_nil]
  | x :: xs => by
    simp! [cp_cons, uk__law_read_1, hf, hg, comp_range f hf hg xs]
theorem read_zp {n p : Nat} [hp : Pr p] {q : Rat} {i : Int} {st : Store} (hq : Sz 30 q) : callN T (n + 7) 39 [figV (Zp p), .int p, rat q, .int i] st = .ok (.bl true) st := by
  have hp0 : (0 : Int) < p := by have := hp.pos; omega
  have hp1 := hp.le
  have hp2 := hp.two
  have e1 := fun st => FigOK.whole_number (K := Zp p) (n := n + 1) (st := st) (i := i)
  have ev : ∀ i : Int, PV.int (i % (p : Int)) = FK.enc (FK.ofInt i : Zp p) := fun i => by
    show _ = PV.int ((((i % p).toNat % p : Nat)) : Int)
    have h1 := Int.emod_nonneg i (Int.ne_of_gt hp0)
    have h2 := Int.emod_lt_of_pos i hp0
    rw [Nat.mod_eq_of_lt (by omega), Int.toNat_of_nonneg h1]
  simp only [← ev] at e1
  have e3 := fun st => alln_zp (n := n + 5) (p := p) (st := st)
  have xq : ∀ st, index (rat q) (.int 0) st = .ok (.int q.num) st := fun st => rfl
  have yq : ∀ st, index (rat q) (.int 1) st = .ok (.int q.den) st := fun st => rfl
  have hs : smallI (p : Int) = true := smallI_of (by omega) (by omega)
  have hl : (rangeL 0 p).length ≤ 16777216 := by unfold rangeL; rw [List.length_map, List.length_range]; omega
  have cr := comp_range (n := n + 6) (fr := [some (figV (Zp p)), some (.int p), some (rat q), some (.int i), some (.int (i % p)), none, none, none, none]) (st := st) (fun x => [some (figV (Zp p)), some (.int p), some (rat q), some (.int i), some (.int (i % p)), none, none, none, some x]) (fun x => rfl) (fun x => rfl) (rangeL 0 p)
  have pr : pur 12 (.tup (rangeL 0 p)) = true := by
    rw [pu_tup]
    refine purs_of fun x hx => ?_
    unfold rangeL at hx
    obtain ⟨k, _, rfl⟩ := List.mem_map.mp hx
    exact pu_int
  have vr : veq (.tup (rangeL 0 p)) (.tup (rangeL 0 p)) = true := by
    rw [ve_tup]
    have : ∀ l : List Int, veqs (l.map PV.int) (l.map PV.int) = true := fun l => by
      induction l with
      | nil => exact vs_nil
      | cons a l ih => rw [List.map_cons, vs_cons, ve_int, ih]; simp
    have e : rangeL 0 p = ((List.range p).map fun k => (0 : Int) + (k : Nat)).map PV.int := by unfold rangeL; rw [List.map_map]; rfl
    rw [e]; exact this _
  by_cases hd : (q.den : Int) % p = 0
  · have e2 := fun st => numof_zp0 (n := n) (p := p) (st := st) hd
    have hd' : ((q.den : Int) % p = 0) = True := eq_true hd
    simp! [c__law_read, b__law_read, m_fig_whole_number, m_fig_number_of, m_fig_all_numbers, e1, e2, e3, zpn, same_i, hp0, hs, Int.toNat_natCast, wipeF, cr, hl, pr, vr, sub_BadNumber, xq, yq, hd', gc_db]
  · have e2 := fun st => numof_zp (n := n) (p := p) (st := st) hd
    have hd' : ((q.den : Int) % p = 0) = False := eq_false hd
    generalize hw : ((FK.ofInt q.num : Zp p) / FK.ofInt (q.den : Int)) = w at e2
    have hwl := w.lt
    have hn : (0 ≤ (w.v : Int)) = True := eq_true (by omega)
    have hlt : ((w.v : Int) < p) = True := eq_true (by omega)
    have m2 : mulOk (w.v : Int) q.den = true := mulOk_bits (m := 8) (n := 30) (by omega) hq.2 (by decide)
    have key : ((w.v : Int) * q.den - q.num) % p = 0 := by
      have hne : (FK.ofInt (q.den : Int) : Zp p) ≠ 0 := fun e => by
        have z := ev (q.den : Int)
        rw [e] at z
        have z : PV.int ((q.den : Int) % (p : Int)) = .int ((0 : Zp p).v : Int) := z
        injection z with z
        rw [Zp.v_0] at z
        exact hd z
      have h1 : w * FK.ofInt (q.den : Int) = FK.ofInt q.num := by rw [← hw]; exact fdiv_mul hne
      have hv : ∀ i : Int, ((FK.ofInt i : Zp p).v : Int) = i % p := fun i => by
        have z := ev i
        rw [enc_zp] at z
        exact (PV.int.inj z).symm
      have h2 : ((w * FK.ofInt (q.den : Int)).v : Int) = ((w.v : Int) * ((q.den : Int) % p)) % p := by
        rw [Zp.v_mul, emod_nat, Int.natCast_mul, hv]
      rw [h1, hv, mul_emod_e] at h2
      rw [Int.sub_emod, ← h2, Int.sub_self]
      exact Int.zero_emod _
    rw [show ∀ x : Zp p, FK.enc x = .int x.v from fun x => rfl] at e2
    simp! [c__law_read, b__law_read, m_fig_whole_number, m_fig_number_of, m_fig_all_numbers, e1, e2, e3, zpn, same_i, hp0, hs, Int.toNat_natCast, wipeF, cr, hl, pr, vr, sub_BadNumber, xq, yq, hd', gc_db, lwhole_i, hn, hlt, b_mul m2, key]

end Lk00

set_option Elab.async false
set_option linter.all false
set_option maxRecDepth 100000
set_option maxHeartbeats 4000000
namespace Lk00
open Ev Sg
open PySem (Str)
local macro_rules | `(tactic| simp! [$ls,*]) => `(tactic| simp -implicitDefEqProofs only [
  e_var, vK_s, e_cst, e_bin, bin1_ok, bin2_ok, bin1_ex, bin2_ex, e_neg, neg1_ok, neg1_ex, e_nt,
  nt1_ok, nt1_ex, ntB_s, e_and, and1_ok, and1_ex, andB_t, andB_f, e_or, or1_ok, or1_ex, orB_t,
  orB_f, e_cmp, cmp1_ok, cmp2_ok, cmp1_ex, cmp2_ex, e_cmpD, cmD1_ok, cmD2_ok, cmD1_ex, cmD2_ex, e_chain,
  ch1_ok, ch2_ok, ch3_ok, chB_t, chB_f, ch4_ok, e_ite, ite1_ok, ite1_ex, iteB_t, iteB_f, e_tup,
  tup1_ok, tup1_ex, e_lst, lst1_ok, lst1_ex, es_nil, es_cons, es1_ok, es2_ok, es1_ex, es2_ex, e_call,
  call1_ok, call1_ex, pick_nil, pick_cons, pick1_s, e_callB, callb1_ok, callb1_ex, callb2_s, e_make, make1_ok, make1_ex,
  e_meth, meth1_ok, meth1_ex, methB_s, meth2_ok, meth2_ex, e_attr, attr1_ok, attr1_ex, attrOf_ins, opt_s, e_ix,
  ix1_ok, ix2_ok, ix1_ex, ix2_ex, e_slc, sl1_ok, sl2_ok, sl3_ok, slH_t, slH_f, prt_i, e_rslc,
  rsl1_ok, e_blt, blt_1_ok, blt_1_ex, e_lm, lm1_ok, lm1_ex, lmB_t, lm2_ok, lm2_ex, e_isin, is1_ok,
  is1_ex, isB1_s, ist_nil, ist_cons, istK_t, istK_f, e_xat, e_xis, ext_nil, ext_own, ext_verr, i_rng,
  rng1_ok, rng1_ex, rngK_s, i_revr, rvr1_ok, rvrK_s, i_seq, seqI1_ok, seqI1_ex, i_enm, enm1_ok, enmK_s,
  i_rev, rev1_ok, revK_s, i_zip, zip1_ok, zip2_ok, cpE_ok, e_comp, cp1_ok, cp1_ex, e_comp2, cp2_1_ok,
  cbE_ok, e_bltC, cb1_ok, cb1_ex, e_bltI, bi1_ok, t_nil, t_cons, ts1_ok, tsK_t, tsK_f, cpD_ok,
  cpC_ok, cpB_t, cpB_f, cpA_s, ss_nil, ss_cons, seqK_nx, seqK_rt, seqK_bk, seqK_ct, seqK_ex, s_expr,
  sExpr_ok, sExpr_ex, s_set, sSet_ok, sSet_ex, sFr_s, s_setT, sSetT_ok, sSetT_ex, asg_nm, asg_tp, sa_nil,
  sa_cons, s_par, sPar_ok, sPar_ex, sSt_s, s_sub, sb1_ok, sb1_ex, sb2_ok, sb3_ok, s_attr, sa1_ok,
  sa1_ex, sa2_ok, s_aug, au1_s, au2_add, au2_sub, s_ife, if1_ok, if1_ex, ifB_t, ifB_f, s_for,
  fo1_ok, fo1_ex, foA_s, foB_nx, foB_ct, foB_bk, foB_rt, foB_ex, s_whl, wh1_ok, whB_t, whB_f,
  whC_nx, whC_ct, whC_bk, whC_rt, s_ret, rt1_ok, rt1_ex, s_retN, s_raise, rz1_ok, rz1_ex, s_try,
  tryK_nx, tryK_rt, tryK_bk, tryK_ct, tryK_ex, s_pass, s_brk, s_cnt, h_nil, h_cons, hdB_f, hdB_s,
  hdB_n, hdE_nx, hdE_bk, hdE_ct, hdE_rt, hdN_nx, hdN_bk, hdN_ct, hdN_rt, fin_rt, fin_nx, fin_ex,
  gc_id, gcX_id, tr_bl, tr_int, tr_non, tr_tup, tr_flst, newT_ok, newL_ok, newT_0, newL_0, newT_1,
  newT_2, newT_3, b_add, b_sub, b_mod, b_addT, b_addO, addO_l, cm_eq, cm_ne, cp_eq, cp_ne,
  cm_in, cm_notin, cm_lt, cm_le, cm_gt, cm_ge, cm_is, cm_isnot, cm_isb, cm_isnotb, cp_lt, cp_le,
  cp_gt, cp_ge, in_non, in_int, in_bl, in_tup, in_flst, in_str, in_obj, in_ins, pu_non, pu_int,
  pu_bl, pu_str, pu_tup, pu_flst, pus_nil, pus_cons, ve_int, ve_str, ve_bl, ve_non, ve_tup, ve_flst,
  vs_nil, vs_cons, vs_nc, vs_cn, ve_nt_i, ve_nt_b, ve_nt_s, ve_nt_t, ve_nt_l, ve_i_n, ve_i_s, ve_i_t,
  ve_i_l, ve_i_b, ve_b_i, ve_b_n, ve_b_s, ve_b_t, ve_b_l, ve_s_n, ve_s_i, ve_s_b, ve_s_t, ve_s_l,
  ve_t_n, ve_t_i, ve_t_b, ve_t_s, ve_t_l, ve_l_n, ve_l_i, ve_l_b, ve_l_s, ve_l_t, vm_nil, vm_cons,
  ty_int, ty_bl, ty_non, ty_str, ty_tup, ty_flst, ty_own, ty_insl, ty_inst, ty_insi, ty_insb, ty_inss,
  ty_obj, tyO_l, tyO_own, tyO_il, tyO_it, tyO_ii, tyO_ib, tyO_is, at_0, at_1, at_2, at_3,
  at_4, ixN_0, ixN_1, ixN_2, ixN_3, ix_tup, ix_flst, ix_obj, ixO_l, bl_abs, bl_int, bl_intb,
  bl_lenT, bl_lenF, bl_lenO, lenO_l, bl_tupT, bl_tupF, bl_tupO, tupO_l, bl_lstO, lstO_l, bl_lstT, bl_lstF,
  bl_min2, bl_max2, il_obj, ilO_l, lm_obj, lmO_app, lmO_pop, setL_ok, stm_tup, stm_flst, stm_obj, stmO_l,
  wt_nil, wt_cons, wtO_l, if_t, if_f, lg_hit, lg_miss, attrOf_obj, atO_i, tr_obj, trO_l, sub_obj,
  subO_l, subI_s, rg_1, rg_2, sg_app, sg_app0, ss_app, ss_app0, sl_app, gc_c2, gcX_c2, gc_db,
  gc_di, gc_dn, gc_ds, if_true, if_false, decide_true, decide_false, Bool.not_true, Bool.not_false, Bool.true_and, Bool.and_true, Bool.false_and,
  Bool.and_false, Bool.or_true, Bool.true_or, Bool.or_false, Bool.false_or, Bool.not_not, List.getElem?_cons_zero, List.getElem?_cons_succ, List.set_cons_zero, List.set_cons_succ, List.length_cons, List.length_nil,
  List.nil_append, List.cons_append, List.append_nil, List.append_assoc, List.isEmpty_cons, List.isEmpty_nil, List.any_cons, List.any_nil, sizeOk_le, Nat.reduceAdd, Nat.reduceLeDiff, Nat.reduceLT,
  Nat.reduceEqDiff, Nat.reduceBEq, Nat.zero_add, Nat.add_zero, Nat.reduceBneDiff, Nat.reduceSub, Nat.reduceMul, Int.reduceEq, Int.reduceLT, Int.reduceLE, Int.reduceNe, Int.reduceAdd,
  Int.reduceSub, Int.reduceMul, Int.reduceNeg, Int.reduceToNat, Int.reduceMod, ne_eq, not_true_eq_false, not_false_eq_true, Int.cast_ofNat_Int, Int.reduceNegSucc, $ls,*])
open Pl
/-! made -/
theorem mk_i {n a b k st} (hb : b ≠ 0) (ha : a.natAbs < 2 ^ k) (hbb : b.natAbs < 2 ^ k) (hk : k ≤ 8000) : callN T (n + 3) 5 [.int a, .int b] st = .ok (rat (Rat.divInt a b)) st := by
  have e := fun st => lt_ok (n := n) (st := st) hb ha hbb (by omega)
  have h0 : (b = 0) = False := eq_false hb
  simp! [c_make_ratio, b_make_ratio, whole_i, e, h0]
theorem mk_0 {n a st} : callN T (n + 3) 5 [.int a, .int 0] st = .exc 1 [10] [.str "bottom"] st := by
  simp! [c_make_ratio, b_make_ratio, whole_i, rz_BadRatio]
theorem mk_ib {n a b st} : callN T (n + 3) 5 [.int a, .bl b] st = .exc 1 [10] [.str "bottom"] st := by
  simp! [c_make_ratio, b_make_ratio, whole_i, whole_b, rz_BadRatio]
theorem mk_it {n a b st} : callN T (n + 3) 5 [.int a, .tup b] st = .exc 1 [10] [.str "bottom"] st := by
  simp! [c_make_ratio, b_make_ratio, whole_i, whole_t, rz_BadRatio]
theorem mk_b {n a b st} : callN T (n + 3) 5 [.bl a, b] st = .exc 1 [10] [.str "top"] st := by
  simp! [c_make_ratio, b_make_ratio, whole_b, rz_BadRatio]
theorem mk_s {n a b st} : callN T (n + 3) 5 [.str a, b] st = .exc 1 [10] [.str "top"] st := by
  simp! [c_make_ratio, b_make_ratio, whole_s, rz_BadRatio]
theorem mk_n {n b st} : callN T (n + 3) 5 [.non, b] st = .exc 1 [10] [.str "top"] st := by
  simp! [c_make_ratio, b_make_ratio, whole_n, rz_BadRatio]
theorem made_i {n a b k st} (hb : b ≠ 0) (ha : a.natAbs < 2 ^ k) (hbb : b.natAbs < 2 ^ k) (hk : k ≤ 8000) : callN T (n + 4) 36 [.int a, .int b] st = .ok (.bl true) st := by
  have e := fun st => mk_i (n := n) (st := st) hb ha hbb hk
  have d := fun st => lratio_ok (n := n + 1) (st := st) (a := a) hb hbb (by omega)
  have h0 : (b = 0) = False := eq_false hb
  simp! [c__law_made, b__law_made, e, d, h0, lwhole_i, same_r]
theorem made_0 {n a st} : callN T (n + 4) 36 [.int a, .int 0] st = .ok (.bl true) st := by
  simp! [c__law_made, b__law_made, mk_0, lwhole_i, sub_BadRatio, lg_hit]
theorem made_ib {n a b st} : callN T (n + 4) 36 [.int a, .bl b] st = .ok (.bl true) st := by
  simp! [c__law_made, b__law_made, mk_ib, lwhole_i, lwhole_b, sub_BadRatio, lg_hit]
theorem made_it {n a b st} : callN T (n + 4) 36 [.int a, .tup b] st = .ok (.bl true) st := by
  simp! [c__law_made, b__law_made, mk_it, lwhole_i, lwhole_t, sub_BadRatio, lg_hit]
theorem made_b {n a b st} : callN T (n + 4) 36 [.bl a, b] st = .ok (.bl true) st := by
  simp! [c__law_made, b__law_made, mk_b, lwhole_b, sub_BadRatio, lg_hit]
theorem made_s {n a b st} : callN T (n + 4) 36 [.str a, b] st = .ok (.bl true) st := by
  simp! [c__law_made, b__law_made, mk_s, lwhole_s, sub_BadRatio, lg_hit]
theorem made_n {n b st} : callN T (n + 4) 36 [.non, b] st = .ok (.bl true) st := by
  simp! [c__law_made, b__law_made, mk_n, lwhole_n, sub_BadRatio, lg_hit]
set_option exponentiation.threshold 10000
/-! numbers -/
theorem smv_any {v : PV} (h : ∀ a xs, v = .tup (.int a :: xs) → a.natAbs < 2 ^ 8000) : smv v := h
theorem lt8000 {a : Nat} (h : a < 2 ^ 64) : a < 2 ^ 8000 := Nat.lt_of_lt_of_le h (Nat.pow_le_pow_right (by decide) (by decide))
theorem smv_t {a : Int} {xs : List PV} (h : a.natAbs < 2 ^ 64) : smv (.tup (.int a :: xs)) := fun b ys e => by
  injection e with e
  injection e with e _
  injection e with e
  subst e
  exact lt8000 h
theorem numbers_rat {n q i st} (hq : Sz 30 q) (hi : i.natAbs < 2 ^ 64) : callN T (n + 7) 40 [figV Rat, .int 0, rat q, .int i] st = .ok (.bl true) st := by
  have e := fun v st hp hs => FigOK.is_number (K := Rat) (n := n + 1) (v := v) (st := st) hp hs
  have el := fun k xs st h => FigOK.is_number_l (K := Rat) (n := n + 1) (k := k) (xs := xs) (st := st) h
  have i1 := fun st => e .non st (by rfl) (fun _ _ h => nomatch h)
  have i2 := fun s st => e (.str s) st (by rfl) (fun _ _ h => nomatch h)
  have i3 := fun s st => e (.bl s) st (by rfl) (fun _ _ h => nomatch h)
  have i4 := fun s st => e (.int s) st (by rfl) (fun _ _ h => nomatch h)
  have i5 := fun st => e (.tup [.int 2, .int 4]) st (by rfl) (smv_t (by decide))
  have i6 := fun st => e (.tup [.int 1, .int 0]) st (by rfl) (smv_t (by decide))
  have i7 := fun st => e (.tup [.int 3, .int (-1)]) st (by rfl) (smv_t (by decide))
  have i8 := fun st => e (.tup [.bl true, .int 1]) st (by rfl) (fun _ _ h => nomatch h)
  have i9 := fun st => e (.tup [.int 1, .bl true]) st (by rfl) (smv_t (by decide))
  have i10 := fun st => e (.tup [.int 1, .int 2, .int 1]) st (by rfl) (smv_t (by decide))
  have i11 := fun st => e (rat q) st pur_rat (smv_t (Nat.lt_trans hq.1 (by decide)))
  have i12 := fun st => e (FK.enc (0 : Rat)) st pur_rat (smv_t (by decide))
  have i13 := fun st => e (FK.enc (1 : Rat)) st pur_rat (smv_t (by decide))
  have i14 := fun st => e (.tup [.int 3, .int 2]) st (by rfl) (smv_t (by decide))
  have g1 : FK.isn Rat .non = false := rfl
  have g2 : ∀ s, FK.isn Rat (.str s) = false := fun _ => rfl
  have g3 : ∀ s, FK.isn Rat (.bl s) = false := fun _ => rfl
  have g4 : ∀ s, FK.isn Rat (.int s) = false := fun _ => rfl
  have g5 : FK.isn Rat (.tup [.int 2, .int 4]) = false := by rfl
  have g6 : FK.isn Rat (.tup [.int 1, .int 0]) = false := by rfl
  have g7 : FK.isn Rat (.tup [.int 3, .int (-1)]) = false := by rfl
  have g8 : FK.isn Rat (.tup [.bl true, .int 1]) = false := by rfl
  have g9 : FK.isn Rat (.tup [.int 1, .bl true]) = false := by rfl
  have g10 : FK.isn Rat (.tup [.int 1, .int 2, .int 1]) = false := by rfl
  have g11 : FK.isn Rat (rat q) = true := (FK.isn_iff _).mpr ⟨q, rfl⟩
  have g12 : FK.isn Rat (FK.enc (0 : Rat)) = true := (FK.isn_iff _).mpr ⟨0, rfl⟩
  have g13 : FK.isn Rat (FK.enc (1 : Rat)) = true := (FK.isn_iff _).mpr ⟨1, rfl⟩
  have g14 : FK.isn Rat (.tup [.int 3, .int 2]) = true := by rfl
  have g15 : ∀ s, FK.isn Rat (.obj s) = false := fun _ => rfl
  have j1 := fun k xs (st : Store) (h : st[k]? = some (.lst xs)) => el k xs st h
  have o0 : ∀ (c0 c1 c2 : List PV), callN T (n + 6) 22 [figV Rat, .obj st.length] (st ++ [.lst c0, .lst c1, .lst c2]) = .ok (.bl false) (st ++ [.lst c0, .lst c1, .lst c2]) := fun c0 c1 c2 => by
    rw [el st.length c0 _ (by simp), g15]
  have o1 : ∀ (c0 c1 c2 : List PV), callN T (n + 6) 22 [figV Rat, .obj (st.length + 1)] (st ++ [.lst c0, .lst c1, .lst c2]) = .ok (.bl false) (st ++ [.lst c0, .lst c1, .lst c2]) := fun c0 c1 c2 => by
    rw [el (st.length + 1) c1 _ (by simp), g15]
  simp! [c__law_numbers, b__law_numbers, fo_cons, fo_nil, ul__law_numbers_1, m_fig_is_number, i1, i2, i3, i4, i5, i6, i7, i8, i9, i10, i11, i12, i13, i14, g1, g2, g3, g4, g5, g6, g7, g8, g9, g10, g11, g12, g13, g14, o0, o1, fig_zero, fig_one, reduceCtorEq]
theorem numbers_zp {n p : Nat} [hp : Pr p] {a : Zp p} {i : Int} {st : Store} : callN T (n + 7) 40 [figV (Zp p), .int p, .int a.v, .int i] st = .ok (.bl true) st := by
  have hp0 : (0 : Int) < p := by have := hp.pos; omega
  have ha := a.lt
  have e := fun v st hp hs => FigOK.is_number (K := Zp p) (n := n + 1) (v := v) (st := st) hp hs
  have el := fun k xs st h => FigOK.is_number_l (K := Zp p) (n := n + 1) (k := k) (xs := xs) (st := st) h
  have i1 := fun st => e .non st (by rfl) (fun _ _ h => nomatch h)
  have i2 := fun s st => e (.str s) st (by rfl) (fun _ _ h => nomatch h)
  have i3 := fun s st => e (.bl s) st (by rfl) (fun _ _ h => nomatch h)
  have i4 := fun s st => e (.int s) st (by rfl) (fun _ _ h => nomatch h)
  have i5 := fun st => e (.tup [.int 2, .int 4]) st (by rfl) (smv_t (by decide))
  have i6 := fun st => e (.tup [.int 1, .int 0]) st (by rfl) (smv_t (by decide))
  have i7 := fun st => e (.tup [.int 3, .int (-1)]) st (by rfl) (smv_t (by decide))
  have i8 := fun st => e (.tup [.bl true, .int 1]) st (by rfl) (fun _ _ h => nomatch h)
  have i9 := fun st => e (.tup [.int 1, .bl true]) st (by rfl) (smv_t (by decide))
  have i10 := fun st => e (.tup [.int 1, .int 2, .int 1]) st (by rfl) (smv_t (by decide))
  have i14 := fun st => e (.tup [.int 3, .int 2]) st (by rfl) (smv_t (by decide))
  have g1 : FK.isn (Zp p) .non = false := rfl
  have g2 : ∀ s, FK.isn (Zp p) (.str s) = false := fun _ => rfl
  have g3 : ∀ s, FK.isn (Zp p) (.bl s) = false := fun _ => rfl
  have g4 : ∀ s, FK.isn (Zp p) (.int s) = (decide (0 ≤ s) && decide (s ≤ (p : Int) - 1)) := fun _ => rfl
  have g5 : ∀ xs, FK.isn (Zp p) (.tup xs) = false := fun _ => rfl
  have g15 : ∀ s, FK.isn (Zp p) (.obj s) = false := fun _ => rfl
  have o0 : ∀ (c0 c1 c2 : List PV), callN T (n + 6) 22 [figV (Zp p), .obj st.length] (st ++ [.lst c0, .lst c1, .lst c2]) = .ok (.bl false) (st ++ [.lst c0, .lst c1, .lst c2]) := fun c0 c1 c2 => by
    rw [el st.length c0 _ (by simp), g15]
  have o1 : ∀ (c0 c1 c2 : List PV), callN T (n + 6) 22 [figV (Zp p), .obj (st.length + 1)] (st ++ [.lst c0, .lst c1, .lst c2]) = .ok (.bl false) (st ++ [.lst c0, .lst c1, .lst c2]) := fun c0 c1 c2 => by
    rw [el (st.length + 1) c1 _ (by simp), g15]
  have ha1 : ((a.v : Int) ≤ (p : Int) - 1) = True := eq_true (by omega)
  have ha0 : (0 ≤ (a.v : Int)) = True := eq_true (by omega)
  have hz : (((0 : Zp p).v : Int)) = 0 := by rw [Zp.v_0]; rfl
  have ho : (((1 : Zp p).v : Int)) = 1 := by rw [Zp.v_1]; rfl
  have h01 : ((0 : Int) ≤ (p : Int) - 1) = True := eq_true (by omega)
  have h11 : ((1 : Int) ≤ (p : Int) - 1) = True := eq_true (by have := hp.two; omega)
  by_cases c0 : 0 ≤ i
  · by_cases c1 : i < p
    · have c2 : (i ≤ (p : Int) - 1) = True := eq_true (by omega)
      simp! [c__law_numbers, b__law_numbers, fo_cons, fo_nil, ul__law_numbers_1, m_fig_is_number, i1, i2, i3, i4, i5, i6, i7, i8, i9, i10, i14, g1, g2, g3, g4, g5, o0, o1, fig_zero, fig_one, enc_zp, reduceCtorEq, hz, ho, ha0, ha1, h01, h11, hp0, c0, c1, c2, zpn]
    · have c2 : (i ≤ (p : Int) - 1) = False := eq_false (by omega)
      simp! [c__law_numbers, b__law_numbers, fo_cons, fo_nil, ul__law_numbers_1, m_fig_is_number, i1, i2, i3, i4, i5, i6, i7, i8, i9, i10, i14, g1, g2, g3, g4, g5, o0, o1, fig_zero, fig_one, enc_zp, reduceCtorEq, hz, ho, ha0, ha1, h01, h11, hp0, c0, c1, c2, zpn]
  · simp! [c__law_numbers, b__law_numbers, fo_cons, fo_nil, ul__law_numbers_1, m_fig_is_number, i1, i2, i3, i4, i5, i6, i7, i8, i9, i10, i14, g1, g2, g3, g4, g5, o0, o1, fig_zero, fig_one, enc_zp, reduceCtorEq, hz, ho, ha0, ha1, h01, h11, hp0, c0, zpn]
/-! kinds -/
theorem kinds_ok {n a b i st} (ha : a.natAbs < 2 ^ 64) (hi : i.natAbs < 2 ^ 64) : callN T (n + 3) 41 [.int a, .int b, .int i] st = .ok (.bl true) st := by
  have e := fun st => cd_ok (n := n + 1) (st := st) (a := a) (b := i) (k := 64) ha (by decide)
  have d := fun st => lgcd_ok (n := n + 1) (st := st) (a := a) (b := i) (k := 64) hi (by decide)
  have ho : ∀ (c0 c1 c2 : Cell), isTy (Gd T (n + 1) none).sub (st ++ [c0, c1, c2]) (.obj (st.length)) .tuple = tyO (Gd T (n + 1) none).sub .tuple (some c0) := fun c0 c1 c2 => by
    rw [ty_obj, sg_app0]; rfl
  have q1 : (decide (a ≤ i) && decide (i ≤ b)) = (if a ≤ i then decide (i ≤ b) else false) := by
    by_cases h : a ≤ i <;> simp [h]
  have il : callN T (n + 2) 3 [.tup [.int i, .int 1]] st = .ok (.bl true) st := by
    have hg : Int.gcd i 1 = 1 := Int.gcd_one
    simp! [c_is_ratio, b_is_ratio, whole_i, whole_il, cd_ok hi, hg]
  have ir : ∀ (s : Store) (t : Store) (xs : List PV), callN T (n + 2) 3 [.obj s.length] (s ++ (Cell.lst xs :: t)) = .ok (.bl false) (s ++ (Cell.lst xs :: t)) := fun s t xs => by
    simp! [c_is_ratio, b_is_ratio]
  have ilt : ∀ st, callN T (n + 2) 3 [.tup [.int i, .int 1]] st = .ok (.bl true) st := fun st => by
    have hg : Int.gcd i 1 = 1 := Int.gcd_one
    simp! [c_is_ratio, b_is_ratio, whole_i, whole_il, cd_ok hi, hg]
  have s1 : ∀ (s : Store) (t : Store) (xs : List PV), callN T (n + 2) 1 [.obj s.length] (s ++ (Cell.lst xs :: t)) = .ok (.bl true) (s ++ (Cell.lst xs :: t)) := fun s t xs => by
    simp! [c_is_sequence, b_is_sequence]
  have ir1 : ∀ (s : Store) (c0 : Cell) (t : Store) (xs : List PV), callN T (n + 2) 3 [.obj (s.length + 1)] (s ++ (c0 :: Cell.lst xs :: t)) = .ok (.bl false) (s ++ (c0 :: Cell.lst xs :: t)) := fun s c0 t xs => by
    simp! [c_is_ratio, b_is_ratio]
  by_cases c1 : a ≤ i
  · by_cases c3 : a = 0
    · by_cases c4 : i = 0
      · subst c3 c4
        simp! [c__law_kinds, b__law_kinds, whole_i, whole_il, whole_ih, whole_ilh, whole_b, whole_s, whole_n, whole_t, seq_t, seq_i, seq_s, seq_n, s1, e, d, lwhole_i, ir, ir1, ilt, Int.gcd_self, Int.natAbs_zero]
      · simp! [c__law_kinds, b__law_kinds, whole_i, whole_il, whole_ih, whole_ilh, whole_b, whole_s, whole_n, whole_t, seq_t, seq_i, seq_s, seq_n, s1, e, d, c1, (eq_true c3 : (a = 0) = True), c4, lwhole_i, ir, ir1, ilt]
    · simp! [c__law_kinds, b__law_kinds, whole_i, whole_il, whole_ih, whole_ilh, whole_b, whole_s, whole_n, whole_t, seq_t, seq_i, seq_s, seq_n, s1, e, d, c1, c3, lwhole_i, ir, ir1, ilt]
  · have c3 : ¬ (a = 0 ∧ i = 0) := by omega
    by_cases c4 : a = 0
    · have c5 : i ≠ 0 := by omega
      simp! [c__law_kinds, b__law_kinds, whole_i, whole_il, whole_ih, whole_ilh, whole_b, whole_s, whole_n, whole_t, seq_t, seq_i, seq_s, seq_n, s1, e, d, c1, (eq_true c4 : (a = 0) = True), c5, lwhole_i, ir, ir1, ilt]
    · simp! [c__law_kinds, b__law_kinds, whole_i, whole_il, whole_ih, whole_ilh, whole_b, whole_s, whole_n, whole_t, seq_t, seq_i, seq_s, seq_n, s1, e, d, c1, c4, lwhole_i, ir, ir1, ilt]

end Lk00

set_option Elab.async false
set_option linter.all false
set_option maxRecDepth 100000
set_option maxHeartbeats 4000000
namespace Lk00
open Ev Sg
open PySem (Str)
local macro_rules | `(tactic| simp! [$ls,*]) => `(tactic| simp -implicitDefEqProofs only [
  e_var, vK_s, e_cst, e_bin, bin1_ok, bin2_ok, bin1_ex, bin2_ex, e_neg, neg1_ok, neg1_ex, e_nt,
  nt1_ok, nt1_ex, ntB_s, e_and, and1_ok, and1_ex, andB_t, andB_f, e_or, or1_ok, or1_ex, orB_t,
  orB_f, e_cmp, cmp1_ok, cmp2_ok, cmp1_ex, cmp2_ex, e_cmpD, cmD1_ok, cmD2_ok, cmD1_ex, cmD2_ex, e_chain,
  ch1_ok, ch2_ok, ch3_ok, chB_t, chB_f, ch4_ok, e_ite, ite1_ok, ite1_ex, iteB_t, iteB_f, e_tup,
  tup1_ok, tup1_ex, e_lst, lst1_ok, lst1_ex, es_nil, es_cons, es1_ok, es2_ok, es1_ex, es2_ex, e_call,
  call1_ok, call1_ex, pick_nil, pick_cons, pick1_s, e_callB, callb1_ok, callb1_ex, callb2_s, e_make, make1_ok, make1_ex,
  e_meth, meth1_ok, meth1_ex, methB_s, meth2_ok, meth2_ex, e_attr, attr1_ok, attr1_ex, attrOf_ins, opt_s, e_ix,
  ix1_ok, ix2_ok, ix1_ex, ix2_ex, e_slc, sl1_ok, sl2_ok, sl3_ok, slH_t, slH_f, prt_i, e_rslc,
  rsl1_ok, e_blt, blt_1_ok, blt_1_ex, e_lm, lm1_ok, lm1_ex, lmB_t, lm2_ok, lm2_ex, e_isin, is1_ok,
  is1_ex, isB1_s, ist_nil, ist_cons, istK_t, istK_f, e_xat, e_xis, ext_nil, ext_own, ext_verr, i_rng,
  rng1_ok, rng1_ex, rngK_s, i_revr, rvr1_ok, rvrK_s, i_seq, seqI1_ok, seqI1_ex, i_enm, enm1_ok, enmK_s,
  i_rev, rev1_ok, revK_s, i_zip, zip1_ok, zip2_ok, cpE_ok, e_comp, cp1_ok, cp1_ex, e_comp2, cp2_1_ok,
  cbE_ok, e_bltC, cb1_ok, cb1_ex, e_bltI, bi1_ok, t_nil, t_cons, ts1_ok, tsK_t, tsK_f, cpD_ok,
  cpC_ok, cpB_t, cpB_f, cpA_s, ss_nil, ss_cons, seqK_nx, seqK_rt, seqK_bk, seqK_ct, seqK_ex, s_expr,
  sExpr_ok, sExpr_ex, s_set, sSet_ok, sSet_ex, sFr_s, s_setT, sSetT_ok, sSetT_ex, asg_nm, asg_tp, sa_nil,
  sa_cons, s_par, sPar_ok, sPar_ex, sSt_s, s_sub, sb1_ok, sb1_ex, sb2_ok, sb3_ok, s_attr, sa1_ok,
  sa1_ex, sa2_ok, s_aug, au1_s, au2_add, au2_sub, s_ife, if1_ok, if1_ex, ifB_t, ifB_f, s_for,
  fo1_ok, fo1_ex, foA_s, foB_nx, foB_ct, foB_bk, foB_rt, foB_ex, s_whl, wh1_ok, whB_t, whB_f,
  whC_nx, whC_ct, whC_bk, whC_rt, s_ret, rt1_ok, rt1_ex, s_retN, s_raise, rz1_ok, rz1_ex, s_try,
  tryK_nx, tryK_rt, tryK_bk, tryK_ct, tryK_ex, s_pass, s_brk, s_cnt, h_nil, h_cons, hdB_f, hdB_s,
  hdB_n, hdE_nx, hdE_bk, hdE_ct, hdE_rt, hdN_nx, hdN_bk, hdN_ct, hdN_rt, fin_rt, fin_nx, fin_ex,
  gc_id, gcX_id, tr_bl, tr_int, tr_non, tr_tup, tr_flst, newT_ok, newL_ok, newT_0, newL_0, newT_1,
  newT_2, newT_3, b_add, b_sub, b_mod, b_addT, b_addO, addO_l, cm_eq, cm_ne, cp_eq, cp_ne,
  cm_in, cm_notin, cm_lt, cm_le, cm_gt, cm_ge, cm_is, cm_isnot, cm_isb, cm_isnotb, cp_lt, cp_le,
  cp_gt, cp_ge, in_non, in_int, in_bl, in_tup, in_flst, in_str, in_obj, in_ins, pu_non, pu_int,
  pu_bl, pu_str, pu_tup, pu_flst, pus_nil, pus_cons, ve_int, ve_str, ve_bl, ve_non, ve_tup, ve_flst,
  vs_nil, vs_cons, vs_nc, vs_cn, ve_nt_i, ve_nt_b, ve_nt_s, ve_nt_t, ve_nt_l, ve_i_n, ve_i_s, ve_i_t,
  ve_i_l, ve_i_b, ve_b_i, ve_b_n, ve_b_s, ve_b_t, ve_b_l, ve_s_n, ve_s_i, ve_s_b, ve_s_t, ve_s_l,
  ve_t_n, ve_t_i, ve_t_b, ve_t_s, ve_t_l, ve_l_n, ve_l_i, ve_l_b, ve_l_s, ve_l_t, vm_nil, vm_cons,
  ty_int, ty_bl, ty_non, ty_str, ty_tup, ty_flst, ty_own, ty_insl, ty_inst, ty_insi, ty_insb, ty_inss,
  ty_obj, tyO_l, tyO_own, tyO_il, tyO_it, tyO_ii, tyO_ib, tyO_is, at_0, at_1, at_2, at_3,
  at_4, ixN_0, ixN_1, ixN_2, ixN_3, ix_tup, ix_flst, ix_obj, ixO_l, bl_abs, bl_int, bl_intb,
  bl_lenT, bl_lenF, bl_lenO, lenO_l, bl_tupT, bl_tupF, bl_tupO, tupO_l, bl_lstO, lstO_l, bl_lstT, bl_lstF,
  bl_min2, bl_max2, il_obj, ilO_l, lm_obj, lmO_app, lmO_pop, setL_ok, stm_tup, stm_flst, stm_obj, stmO_l,
  wt_nil, wt_cons, wtO_l, if_t, if_f, lg_hit, lg_miss, attrOf_obj, atO_i, tr_obj, trO_l, sub_obj,
  subO_l, subI_s, rg_1, rg_2, sg_app, sg_app0, ss_app, ss_app0, sl_app, gc_c2, gcX_c2, gc_db,
  gc_di, gc_dn, gc_ds, if_true, if_false, decide_true, decide_false, Bool.not_true, Bool.not_false, Bool.true_and, Bool.and_true, Bool.false_and,
  Bool.and_false, Bool.or_true, Bool.true_or, Bool.or_false, Bool.false_or, Bool.not_not, List.getElem?_cons_zero, List.getElem?_cons_succ, List.set_cons_zero, List.set_cons_succ, List.length_cons, List.length_nil,
  List.nil_append, List.cons_append, List.append_nil, List.append_assoc, List.isEmpty_cons, List.isEmpty_nil, List.any_cons, List.any_nil, sizeOk_le, Nat.reduceAdd, Nat.reduceLeDiff, Nat.reduceLT,
  Nat.reduceEqDiff, Nat.reduceBEq, Nat.zero_add, Nat.add_zero, Nat.reduceBneDiff, Nat.reduceSub, Nat.reduceMul, Int.reduceEq, Int.reduceLT, Int.reduceLE, Int.reduceNe, Int.reduceAdd,
  Int.reduceSub, Int.reduceMul, Int.reduceNeg, Int.reduceToNat, Int.reduceMod, ne_eq, not_true_eq_false, not_false_eq_true, Int.cast_ofNat_Int, Int.reduceNegSucc, $ls,*])
open Pl
/-! refused -/
theorem fig_bad {n v st} (hv : pur 12 v = true) (e : callN T (n + 2) 12 [.obj st.length, v] (st ++ [.ins 5 [] []]) = .exc 3 [11] [v] (st ++ [.ins 5 [] []])) :
    makeObj (Gd T (n + 2) none) 5 [v] st = .exc 3 [11] [v] st := by
  unfold makeObj
  rw [cls_Figures]
  show (match callN T (n + 2) 12 [.obj st.length, v] (st ++ [.ins 5 [] []]) with
      | .ok .non st1 => _
      | .exc e ks us st1 => gcX st e ks us st1
      | _ => _) = _
  rw [e]
  exact gcX_drop (by rw [closeds, closeds, cl_pur hv]; rfl)
theorem init_bad_i {n i} {st : Store} {c : List Cell} (h : vmem (.int i) [.int 0, .int 2, .int 3, .int 5, .int 7, .int 11, .int 13] = false) : callN T (n + 2) 12 [.obj st.length, .int i] (st ++ c) = .exc 3 [11] [.int i] (st ++ c) := by
  simp! [c_Figures___init__, b_Figures___init__, whole_i, h, rz_BadFigures]
theorem init_bad_b {n i} {st : Store} {c : List Cell} : callN T (n + 2) 12 [.obj st.length, .bl i] (st ++ c) = .exc 3 [11] [.bl i] (st ++ c) := by
  simp! [c_Figures___init__, b_Figures___init__, whole_b, rz_BadFigures]
theorem init_bad_s {n i} {st : Store} {c : List Cell} : callN T (n + 2) 12 [.obj st.length, .str i] (st ++ c) = .exc 3 [11] [.str i] (st ++ c) := by
  simp! [c_Figures___init__, b_Figures___init__, whole_s, rz_BadFigures]
theorem init_bad_n {n} {st : Store} {c : List Cell} : callN T (n + 2) 12 [.obj st.length, .non] (st ++ c) = .exc 3 [11] [.non] (st ++ c) := by
  simp! [c_Figures___init__, b_Figures___init__, whole_n, rz_BadFigures]
theorem init_bad_t {n i} {st : Store} {c : List Cell} : callN T (n + 2) 12 [.obj st.length, .tup i] (st ++ c) = .exc 3 [11] [.tup i] (st ++ c) := by
  simp! [c_Figures___init__, b_Figures___init__, whole_t, rz_BadFigures]
theorem refused_ok {n v st} (hv : pur 12 v = true) (hq : veq v v = true) (e : ∀ n (st : Store), callN T (n + 2) 12 [.obj st.length, v] (st ++ [.ins 5 [] []]) = .exc 3 [11] [v] (st ++ [.ins 5 [] []])) :
    callN T (n + 3) 42 [v] st = .ok (.bl true) st := by
  have m := fig_bad (n := n) (st := st) hv (e n st)
  simp! [c__law_refused, b__law_refused, m, sub_BadFigures, lg_hit, hv, hq]
/-! the law -/
structure Kind (K : Type) [FK K] : Prop where
  drawn : ∀ n h tl, ∃ (y : K) (h' : Hd), callN T (n + 5) 31 [.obj 1, .int (FK.pr K)] (hst h tl) = .ok (FK.enc y) (hst h' tl) ∧ FK.sz 30 y
  body : ∀ n (a b : K) s0 s1 s4 s13 st, FK.sz 30 a → FK.sz 30 b → exSs (Gd T (n + 8) none) l_law_2 [s0, s1, some (.int (FK.pr K)), some (figV K), s4, some (FK.enc a), none, none, none, none, none, none, some (FK.enc b), s13] st = .nx [s0, s1, some (.int (FK.pr K)), some (figV K), s4, some (FK.enc a), none, none, none, none, none, none, some (FK.enc b), s13] st
  read : ∀ n q i st, Sz 30 q → callN T (n + 7) 39 [figV K, .int (FK.pr K), rat q, .int i] st = .ok (.bl true) st
  numbers : ∀ n (a : K) i st, FK.sz 30 a → i.natAbs < 2 ^ 64 → callN T (n + 7) 40 [figV K, .int (FK.pr K), FK.enc a, .int i] st = .ok (.bl true) st
  known : vmem (.int (FK.pr K)) [.int 0, .int 2, .int 3, .int 5, .int 7, .int 11, .int 13] = true
  zero : FK.enc (0 : K) = if FK.pr K = 0 then .tup [.int 0, .int 1] else .int 0
  one : FK.enc (1 : K) = if FK.pr K = 0 then .tup [.int 1, .int 1] else .int 1
theorem kind_rat : Kind Rat where
  drawn n h tl := ⟨frV h, frH h, by
    have e := fun n h tl => fr_ok (n := n) (h := h) (tl := tl)
    simp! [c__law_drawn, b__law_drawn, pr_rat, e]
    exact gc_c2, fr_sz⟩
  body n a b s0 s1 s4 s13 st ha hb := by
    have e1 := ratios_ok (n := n + 2) (st := st) (a := a) (b := b) ha hb (by decide)
    have e2 := fractions_ok (n := n + 1) (st := st) (a := a) (b := b) ha hb (by decide)
    simp! [ul_law_2, pr_rat, enc_rat, e1, e2]
  read n q i st hq := read_rat
  numbers n a i st ha hi := numbers_rat ha hi
  known := by rfl
  zero := rfl
  one := rfl
theorem pr_cases {p : Nat} (hp : Pr p) : p = 2 ∨ p = 3 ∨ p = 5 ∨ p = 7 ∨ p = 11 ∨ p = 13 := by
  have h1 := hp.two
  have h2 := hp.le
  have h3 := hp.inv
  have : p = 2 ∨ p = 3 ∨ p = 4 ∨ p = 5 ∨ p = 6 ∨ p = 7 ∨ p = 8 ∨ p = 9 ∨ p = 10 ∨ p = 11 ∨ p = 12 ∨ p = 13 := by omega
  rcases this with rfl | rfl | rfl | rfl | rfl | rfl | rfl | rfl | rfl | rfl | rfl | rfl <;> first | simp; done | (exfalso; revert h3; decide)
theorem kind_zp (p : Nat) [hp : Pr p] : Kind (Zp p) where
  drawn n h tl := by
    have hp0 : (0 : Int) < p := by have := hp.pos; omega
    have h0 := tk_nn (h := h) hp0
    have h1 := tk_lt (h := h) hp0
    have e := take_ok (n := n + 2) (h := h) (tl := tl) hp0 (by have := hp.le; omega)
    refine ⟨⟨(tkV h p).toNat, by omega⟩, tkH h p, ?_, trivial⟩
    rw [enc_zp]
    simp! [c__law_drawn, b__law_drawn, pr_zp, zpn, e]
    rw [Int.toNat_of_nonneg h0]
    exact gc_c2
  body n a b s0 s1 s4 s13 st ha hb := by
    have hp0 : (0 : Int) < p := by have := hp.pos; omega
    have e1 := rests_ok (n := n + 1) (st := st) (a := a) (b := b)
    simp! [ul_law_2, pr_zp, enc_zp, zpn, hp0, e1]
  read n q i st hq := read_zp hq
  numbers n a i st ha hi := numbers_zp
  known := by
    rw [pr_zp]
    rcases pr_cases hp with rfl | rfl | rfl | rfl | rfl | rfl <;> rfl
  zero := by rw [pr_zp, enc_zp, if_neg (by simp only [zpn]; exact not_false), Zp.v_0]; rfl
  one := by rw [pr_zp, enc_zp, if_neg (by simp only [zpn]; exact not_false), Zp.v_1]; rfl
section
variable {K : Type} [FK K] [FigOK K]
theorem rows_loop (k : Kind K) {n : Nat} {fr : Frame} (f : PV → Frame) (hf : ∀ x, fr.set 13 (some x) = f x) (h1 : ∀ x, (f x)[1]? = some (some (.obj 1))) (h2 : ∀ x, (f x)[2]? = some (some (.int (FK.pr K)))) :
    ∀ (xs : List PV) (h : Hd) (tl : Store), ∃ (ys : List K) (h' : Hd), cpK (Gd T (n + 5) none) (.nm 13) [] k_law_1 [] fr xs (hst h tl) = .ok (ys.map FK.enc) (hst h' tl) ∧ ys.length = xs.length ∧ ∀ y ∈ ys, FK.sz 30 y
  | [], h, tl => ⟨[], h, by simp! [cp_nil, List.map_nil], rfl, fun _ h => nomatch h⟩
  | x :: xs, h, tl => by
    obtain ⟨y, h', e, hy⟩ := k.drawn n h tl
    obtain ⟨ys, h2', e2, hl, hys⟩ := rows_loop (n := n) k f hf h1 h2 xs h' tl
    refine ⟨y :: ys, h2', ?_, by simp [hl], fun z hz => ?_⟩
    · simp! [cp_cons, uk_law_1, hf, h1, h2, e, e2, List.map_cons]
    · rcases List.mem_cons.mp hz with rfl | hz
      · exact hy
      · exact hys z hz
theorem inner_loop (k : Kind K) {n : Nat} {a : K} {wt st s0 s1 s4 s13} (ha : FK.sz 30 a) (hw : watch st wt = true) : ∀ (ys : List K) (o : Option PV), (∀ y ∈ ys, FK.sz 30 y) →
    ∃ o', foK (Gd T (n + 8) none) (.nm 12) l_law_2 wt (ys.map FK.enc) [s0, s1, some (.int (FK.pr K)), some (figV K), s4, some (FK.enc a), none, none, none, none, none, none, o, s13] st = .nx [s0, s1, some (.int (FK.pr K)), some (figV K), s4, some (FK.enc a), none, none, none, none, none, none, o', s13] st
  | [], o, _ => ⟨o, by simp! [fo_nil, hw, List.map_nil]⟩
  | y :: ys, o, h => by
    obtain ⟨o', e⟩ := inner_loop (n := n) (s0 := s0) (s1 := s1) (s4 := s4) (s13 := s13) k ha hw ys (some (FK.enc y)) fun z hz => h z (List.mem_cons_of_mem _ hz)
    refine ⟨o', ?_⟩
    have b := k.body n a y s0 s1 s4 s13 st ha (h y List.mem_cons_self)
    simp! [fo_cons, List.map_cons, hw, b, e]
theorem outer_loop (k : Kind K) {n : Nat} {wt st s0 s1 s13} {j : Nat} {zs : List K} (hz : ∀ z ∈ zs, FK.sz 30 z) (hj : st[j]? = some (.lst (zs.map FK.enc))) (hw : watch st wt = true) : ∀ (ys : List K) (a o : Option PV), (∀ y ∈ ys, FK.sz 30 y) →
    ∃ a' o', foK (Gd T (n + 8) none) (.nm 5) l_law_1 wt (ys.map FK.enc) [s0, s1, some (.int (FK.pr K)), some (figV K), some (.obj j), a, none, none, none, none, none, none, o, s13] st = .nx [s0, s1, some (.int (FK.pr K)), some (figV K), some (.obj j), a', none, none, none, none, none, none, o', s13] st
  | [], a, o, _ => ⟨a, o, by simp! [fo_nil, hw, List.map_nil]⟩
  | y :: ys, a, o, h => by
    have hy := h y List.mem_cons_self
    have hw2 : watch st [(j, zs.map FK.enc)] = true := by simp! [hj]
    obtain ⟨o1, e1⟩ := inner_loop (n := n) (s0 := s0) (s1 := s1) (s4 := some (.obj j)) (s13 := s13) k hy hw2 zs o hz
    obtain ⟨a', o', e⟩ := outer_loop (n := n) (s0 := s0) (s1 := s1) (s13 := s13) k hz hj hw ys (some (FK.enc y)) o1 fun z hz => h z (List.mem_cons_of_mem _ hz)
    refine ⟨a', o', ?_⟩
    simp! [fo_cons, List.map_cons, hw, ul_law_1, hj, e1, e]
theorem many_ex {n h tl} {fr : Frame} (h1 : fr[1]? = some (some (.obj 1))) : ∃ (m : Int) (h' : Hd), exS (Gd T (n + 3) none) s_law_6 fr (hst h tl) = .nx (fr.set 6 (some (.int m))) (hst h' tl) ∧ m.natAbs < 2 ^ 50 := by
  have m1 : mulOk 5 100000000000 = true := mulOk_bits (m := 64) (n := 64) (by decide) (by decide) (by decide)
  by_cases c : tkV h 3 = 0
  · have g1 := tk_nn (h := tkH h 3) (m := 1000000000000) (by decide)
    have g2 := tk_lt (h := tkH h 3) (m := 1000000000000) (by decide)
    refine ⟨tkV (tkH h 3) 1000000000000 - 500000000000, tkH (tkH h 3) 1000000000000, ?_, by omega⟩
    simp! [us_law_6, h1, take_ok, c, pow10, Int.reducePow, b_mul m1]
  · have g1 := tk_nn (h := tkH h 3) (m := 199) (by decide)
    have g2 := tk_lt (h := tkH h 3) (m := 199) (by decide)
    refine ⟨tkV (tkH h 3) 199 - 99, tkH (tkH h 3) 199, ?_, by omega⟩
    simp! [us_law_6, h1, take_ok, c]
end

end Lk00

set_option Elab.async false
set_option linter.all false
set_option maxRecDepth 100000
set_option maxHeartbeats 4000000
namespace Lk00
open Ev Sg
open PySem (Str)
local macro_rules | `(tactic| simp! [$ls,*]) => `(tactic| simp -implicitDefEqProofs only [
  e_var, vK_s, e_cst, e_bin, bin1_ok, bin2_ok, bin1_ex, bin2_ex, e_neg, neg1_ok, neg1_ex, e_nt,
  nt1_ok, nt1_ex, ntB_s, e_and, and1_ok, and1_ex, andB_t, andB_f, e_or, or1_ok, or1_ex, orB_t,
  orB_f, e_cmp, cmp1_ok, cmp2_ok, cmp1_ex, cmp2_ex, e_cmpD, cmD1_ok, cmD2_ok, cmD1_ex, cmD2_ex, e_chain,
  ch1_ok, ch2_ok, ch3_ok, chB_t, chB_f, ch4_ok, e_ite, ite1_ok, ite1_ex, iteB_t, iteB_f, e_tup,
  tup1_ok, tup1_ex, e_lst, lst1_ok, lst1_ex, es_nil, es_cons, es1_ok, es2_ok, es1_ex, es2_ex, e_call,
  call1_ok, call1_ex, pick_nil, pick_cons, pick1_s, e_callB, callb1_ok, callb1_ex, callb2_s, e_make, make1_ok, make1_ex,
  e_meth, meth1_ok, meth1_ex, methB_s, meth2_ok, meth2_ex, e_attr, attr1_ok, attr1_ex, attrOf_ins, opt_s, e_ix,
  ix1_ok, ix2_ok, ix1_ex, ix2_ex, e_slc, sl1_ok, sl2_ok, sl3_ok, slH_t, slH_f, prt_i, e_rslc,
  rsl1_ok, e_blt, blt_1_ok, blt_1_ex, e_lm, lm1_ok, lm1_ex, lmB_t, lm2_ok, lm2_ex, e_isin, is1_ok,
  is1_ex, isB1_s, ist_nil, ist_cons, istK_t, istK_f, e_xat, e_xis, ext_nil, ext_own, ext_verr, i_rng,
  rng1_ok, rng1_ex, rngK_s, i_revr, rvr1_ok, rvrK_s, i_seq, seqI1_ok, seqI1_ex, i_enm, enm1_ok, enmK_s,
  i_rev, rev1_ok, revK_s, i_zip, zip1_ok, zip2_ok, cpE_ok, e_comp, cp1_ok, cp1_ex, e_comp2, cp2_1_ok,
  cbE_ok, e_bltC, cb1_ok, cb1_ex, e_bltI, bi1_ok, t_nil, t_cons, ts1_ok, tsK_t, tsK_f, cpD_ok,
  cpC_ok, cpB_t, cpB_f, cpA_s, ss_nil, ss_cons, seqK_nx, seqK_rt, seqK_bk, seqK_ct, seqK_ex, s_expr,
  sExpr_ok, sExpr_ex, s_set, sSet_ok, sSet_ex, sFr_s, s_setT, sSetT_ok, sSetT_ex, asg_nm, asg_tp, sa_nil,
  sa_cons, s_par, sPar_ok, sPar_ex, sSt_s, s_sub, sb1_ok, sb1_ex, sb2_ok, sb3_ok, s_attr, sa1_ok,
  sa1_ex, sa2_ok, s_aug, au1_s, au2_add, au2_sub, s_ife, if1_ok, if1_ex, ifB_t, ifB_f, s_for,
  fo1_ok, fo1_ex, foA_s, foB_nx, foB_ct, foB_bk, foB_rt, foB_ex, s_whl, wh1_ok, whB_t, whB_f,
  whC_nx, whC_ct, whC_bk, whC_rt, s_ret, rt1_ok, rt1_ex, s_retN, s_raise, rz1_ok, rz1_ex, s_try,
  tryK_nx, tryK_rt, tryK_bk, tryK_ct, tryK_ex, s_pass, s_brk, s_cnt, h_nil, h_cons, hdB_f, hdB_s,
  hdB_n, hdE_nx, hdE_bk, hdE_ct, hdE_rt, hdN_nx, hdN_bk, hdN_ct, hdN_rt, fin_rt, fin_nx, fin_ex,
  gc_id, gcX_id, tr_bl, tr_int, tr_non, tr_tup, tr_flst, newT_ok, newL_ok, newT_0, newL_0, newT_1,
  newT_2, newT_3, b_add, b_sub, b_mod, b_addT, b_addO, addO_l, cm_eq, cm_ne, cp_eq, cp_ne,
  cm_in, cm_notin, cm_lt, cm_le, cm_gt, cm_ge, cm_is, cm_isnot, cm_isb, cm_isnotb, cp_lt, cp_le,
  cp_gt, cp_ge, in_non, in_int, in_bl, in_tup, in_flst, in_str, in_obj, in_ins, pu_non, pu_int,
  pu_bl, pu_str, pu_tup, pu_flst, pus_nil, pus_cons, ve_int, ve_str, ve_bl, ve_non, ve_tup, ve_flst,
  vs_nil, vs_cons, vs_nc, vs_cn, ve_nt_i, ve_nt_b, ve_nt_s, ve_nt_t, ve_nt_l, ve_i_n, ve_i_s, ve_i_t,
  ve_i_l, ve_i_b, ve_b_i, ve_b_n, ve_b_s, ve_b_t, ve_b_l, ve_s_n, ve_s_i, ve_s_b, ve_s_t, ve_s_l,
  ve_t_n, ve_t_i, ve_t_b, ve_t_s, ve_t_l, ve_l_n, ve_l_i, ve_l_b, ve_l_s, ve_l_t, vm_nil, vm_cons,
  ty_int, ty_bl, ty_non, ty_str, ty_tup, ty_flst, ty_own, ty_insl, ty_inst, ty_insi, ty_insb, ty_inss,
  ty_obj, tyO_l, tyO_own, tyO_il, tyO_it, tyO_ii, tyO_ib, tyO_is, at_0, at_1, at_2, at_3,
  at_4, ixN_0, ixN_1, ixN_2, ixN_3, ix_tup, ix_flst, ix_obj, ixO_l, bl_abs, bl_int, bl_intb,
  bl_lenT, bl_lenF, bl_lenO, lenO_l, bl_tupT, bl_tupF, bl_tupO, tupO_l, bl_lstO, lstO_l, bl_lstT, bl_lstF,
  bl_min2, bl_max2, il_obj, ilO_l, lm_obj, lmO_app, lmO_pop, setL_ok, stm_tup, stm_flst, stm_obj, stmO_l,
  wt_nil, wt_cons, wtO_l, if_t, if_f, lg_hit, lg_miss, attrOf_obj, atO_i, tr_obj, trO_l, sub_obj,
  subO_l, subI_s, rg_1, rg_2, sg_app, sg_app0, ss_app, ss_app0, sl_app, gc_c2, gcX_c2, gc_db,
  gc_di, gc_dn, gc_ds, if_true, if_false, decide_true, decide_false, Bool.not_true, Bool.not_false, Bool.true_and, Bool.and_true, Bool.false_and,
  Bool.and_false, Bool.or_true, Bool.true_or, Bool.or_false, Bool.false_or, Bool.not_not, List.getElem?_cons_zero, List.getElem?_cons_succ, List.set_cons_zero, List.set_cons_succ, List.length_cons, List.length_nil,
  List.nil_append, List.cons_append, List.append_nil, List.append_assoc, List.isEmpty_cons, List.isEmpty_nil, List.any_cons, List.any_nil, sizeOk_le, Nat.reduceAdd, Nat.reduceLeDiff, Nat.reduceLT,
  Nat.reduceEqDiff, Nat.reduceBEq, Nat.zero_add, Nat.add_zero, Nat.reduceBneDiff, Nat.reduceSub, Nat.reduceMul, Int.reduceEq, Int.reduceLT, Int.reduceLE, Int.reduceNe, Int.reduceAdd,
  Int.reduceSub, Int.reduceMul, Int.reduceNeg, Int.reduceToNat, Int.reduceMod, ne_eq, not_true_eq_false, not_false_eq_true, Int.cast_ofNat_Int, Int.reduceNegSucc, $ls,*])
open Pl
theorem seq_cons {G : Gl} {s : CS} {ss : List CS} {fr fr' : Frame} {st st' : Store} (e : exS G s fr st = .nx fr' st') : exSs G (s :: ss) fr st = exSs G ss fr' st' := by
  rw [ss_cons, e]; rfl
section
variable {K : Type} [FK K] [FigOK K]
theorem s3_ok (k : Kind K) {n : Nat} {s0 s1 s4 s5 s6 s7 s8 s9 s10 s11 s12 s13 : Option PV} {st : Store} : exS (Gd T (n + 9) none) s_law_3 [s0, s1, some (.int (FK.pr K)), some (figV K), s4, s5, s6, s7, s8, s9, s10, s11, s12, s13] st = .nx [s0, s1, some (.int (FK.pr K)), some (figV K), s4, s5, s6, s7, s8, s9, s10, s11, s12, s13] st := by
  by_cases hz : FK.pr K = 0
  · have h0 := k.zero
    have h1 := k.one
    rw [if_pos hz] at h0 h1
    simp! [us_law_3, fig_prime, fig_zero, fig_one, h0, h1, hz, c__law_same, b__law_same, lwhole_i]
  · have h0 := k.zero
    have h1 := k.one
    rw [if_neg hz] at h0 h1
    simp! [us_law_3, fig_prime, fig_zero, fig_one, h0, h1, hz, c__law_same, b__law_same, lwhole_i]
theorem s4_ok (k : Kind K) {n : Nat} {s0 s5 s6 s7 s8 s9 s10 s11 s12 : Option PV} {h : Hd} : ∃ (ys : List K) (h' : Hd) (tl : Store) (j : Nat), exS (Gd T (n + 9) none) s_law_4 [s0, some (.obj 1), some (.int (FK.pr K)), some (figV K), none, s5, s6, s7, s8, s9, s10, s11, s12, none] (hst h []) =
    .nx [s0, some (.obj 1), some (.int (FK.pr K)), some (figV K), some (.obj (j + 2)), s5, s6, s7, s8, s9, s10, s11, s12, none] (hst h' tl) ∧ tl[j]? = some (.lst (ys.map FK.enc)) ∧ (∃ y zs, ys = y :: zs) ∧ ∀ y ∈ ys, FK.sz 30 y := by
  have g0 := tk_nn (h := h) (m := 2) (by decide)
  have g1 := tk_lt (h := h) (m := 2) (by decide)
  have hs : smallI (2 + tkV h 2) = true := smallI_of (by omega) (by omega)
  have hl : (rangeL 0 (2 + tkV h 2).toNat).length = (2 + tkV h 2).toNat := by unfold rangeL; rw [List.length_map, List.length_range]
  obtain ⟨ys, h', e, hl2, hys⟩ := rows_loop (n := n + 4) (fr := [s0, some (.obj 1), some (.int (FK.pr K)), some (figV K), none, s5, s6, s7, s8, s9, s10, s11, s12, none]) k (fun x => [s0, some (.obj 1), some (.int (FK.pr K)), some (figV K), none, s5, s6, s7, s8, s9, s10, s11, s12, some x]) (fun _ => rfl) (fun _ => rfl) (fun _ => rfl) (rangeL 0 (2 + tkV h 2).toNat) (tkH h 2) []
  have l1 : ys.length ≤ 16777216 := by rw [hl2, hl]; omega
  have l2 : ys.length + 1 ≤ 16777216 := by rw [hl2, hl]; omega
  refine ⟨ys ++ [0], h', [.lst (ys.map FK.enc), .lst [FK.enc (0 : K)], .lst (ys.map FK.enc ++ [FK.enc (0 : K)])], 2, ?_, ?_, ?_, ?_⟩
  · simp! [us_law_4, take_ok, hs, wipeF, e, l1, l2, List.length_append, hst_len, hst_app, fig_zero, hst_get, List.length_map]
  · simp [List.map_append]
  · cases ys with
    | nil => rw [hl] at hl2; simp at hl2; omega
    | cons y ys => exact ⟨y, ys ++ [0], rfl⟩
  · intro y hy
    rcases List.mem_append.mp hy with hy | hy
    · exact hys y hy
    · rw [List.mem_singleton.mp hy]; exact FK.sz_mono (by decide) FK.sz_0
def TopK (v : PV) : Prop := (∃ i : Int, v = .int i ∧ i.natAbs < 2 ^ 60) ∨ (∃ b, v = .bl b) ∨ (∃ s, v = .str s) ∨ v = .non
def BotK (v : PV) : Prop := (∃ i : Int, v = .int i ∧ i.natAbs < 2 ^ 60) ∨ (∃ b, v = .bl b) ∨ (∃ s, v = .tup s)
theorem s11_ok {n : Nat} {s0 s2 s3 s4 s5 s7 s8 s9 s10 s11 s12 s13 : Option PV} {m : Int} (hm : m.natAbs < 2 ^ 50) {h : Hd} {tl} : ∃ v h', TopK v ∧ exS (Gd T (n + 9) none) s_law_11 [s0, some (.obj 1), s2, s3, s4, s5, some (.int m), s7, s8, s9, s10, s11, s12, s13] (hst h tl) =
    .nx [s0, some (.obj 1), s2, s3, s4, s5, some (.int m), s7, s8, some v, s10, s11, s12, s13] (hst h' tl) := by
  have g0 := tk_nn (h := topH h) (m := 6) (by decide)
  have g1 := tk_lt (h := topH h) (m := 6) (by decide)
  obtain ⟨x, hx, e⟩ := at_mem (l := [PV.int (topV h), .bl true, .str "1", .non, .int 0, .int m]) g0 g1
  refine ⟨x, tkH (topH h) 6, ?_, ?_⟩
  · simp only [List.mem_cons, List.not_mem_nil, or_false] at hx
    have := top_lt (h := h)
    rcases hx with rfl | rfl | rfl | rfl | rfl | rfl
    · exact .inl ⟨_, rfl, by omega⟩
    · exact .inr (.inl ⟨_, rfl⟩)
    · exact .inr (.inr (.inl ⟨_, rfl⟩))
    · exact .inr (.inr (.inr rfl))
    · exact .inl ⟨_, rfl, by decide⟩
    · exact .inl ⟨_, rfl, by omega⟩
  · simp! [us_law_11, top_ok, take_ok, e]
theorem s12_ok {n : Nat} {s0 s2 s3 s4 s5 s6 s7 s8 s9 s10 s11 s12 s13 : Option PV} {h : Hd} {tl} : ∃ v h', BotK v ∧ exS (Gd T (n + 9) none) s_law_12 [s0, some (.obj 1), s2, s3, s4, s5, s6, s7, s8, s9, s10, s11, s12, s13] (hst h tl) =
    .nx [s0, some (.obj 1), s2, s3, s4, s5, s6, s7, s8, s9, some v, s11, s12, s13] (hst h' tl) := by
  have g0 := tk_nn (h := topH h) (m := 6) (by decide)
  have g1 := tk_lt (h := topH h) (m := 6) (by decide)
  obtain ⟨x, hx, e⟩ := at_mem (l := [PV.int (topV h), .bl false, .int 0, .tup [.int 1, .int 1], .int (-1), .int 12]) g0 g1
  refine ⟨x, tkH (topH h) 6, ?_, ?_⟩
  · simp only [List.mem_cons, List.not_mem_nil, or_false] at hx
    have := top_lt (h := h)
    rcases hx with rfl | rfl | rfl | rfl | rfl | rfl
    · exact .inl ⟨_, rfl, by omega⟩
    · exact .inr (.inl ⟨_, rfl⟩)
    · exact .inl ⟨_, rfl, by decide⟩
    · exact .inr (.inr ⟨_, rfl⟩)
    · exact .inl ⟨_, rfl, by decide⟩
    · exact .inl ⟨_, rfl, by decide⟩
  · simp! [us_law_12, top_ok, take_ok, e]
theorem made_any {n v w st} (hv : TopK v) (hw : BotK w) : callN T (n + 4) 36 [v, w] st = .ok (.bl true) st := by
  rcases hv with ⟨i, rfl, hi⟩ | ⟨b, rfl⟩ | ⟨s, rfl⟩ | rfl
  · rcases hw with ⟨j, rfl, hj⟩ | ⟨b, rfl⟩ | ⟨s, rfl⟩
    · by_cases h0 : j = 0
      · subst h0; exact made_0
      · exact made_i h0 hi hj (by decide)
    · exact made_ib
    · exact made_it
  · exact made_b
  · exact made_s
  · exact made_n
def WrongK (v : PV) : Prop := ∀ n st, callN T (n + 3) 42 [v] st = .ok (.bl true) st
theorem s14_ok {n : Nat} {s0 s2 s3 s4 s5 s6 s7 s8 s9 s10 s11 s12 s13 : Option PV} {h : Hd} {tl} : ∃ v h', WrongK v ∧ exS (Gd T (n + 9) none) s_law_14 [s0, some (.obj 1), s2, s3, s4, s5, s6, s7, s8, s9, s10, s11, s12, s13] (hst h tl) =
    .nx [s0, some (.obj 1), s2, s3, s4, s5, s6, s7, s8, s9, s10, some v, s12, s13] (hst h' tl) := by
  have g0 := tk_nn (h := h) (m := 14) (by decide)
  have g1 := tk_lt (h := h) (m := 14) (by decide)
  obtain ⟨x, hx, e⟩ := at_mem (l := [PV.int 1, .int 4, .int 6, .int 9, .int 10, .int 12, .int 14, .int 17, .bl true, .str "5", .non, .int (-5), .tup [.int 5, .int 1], .int 169]) g0 g1
  refine ⟨x, tkH h 14, ?_, ?_⟩
  · simp only [List.mem_cons, List.not_mem_nil, or_false] at hx
    have wi : ∀ i : Int, vmem (.int i) [.int 0, .int 2, .int 3, .int 5, .int 7, .int 11, .int 13] = false → WrongK (.int i) := fun i hi n st => refused_ok (by rfl) (by rw [ve_int]; simp) fun n st => init_bad_i hi
    rcases hx with rfl | rfl | rfl | rfl | rfl | rfl | rfl | rfl | rfl | rfl | rfl | rfl | rfl | rfl
    · exact wi _ (by rfl)
    · exact wi _ (by rfl)
    · exact wi _ (by rfl)
    · exact wi _ (by rfl)
    · exact wi _ (by rfl)
    · exact wi _ (by rfl)
    · exact wi _ (by rfl)
    · exact wi _ (by rfl)
    · exact fun n st => refused_ok (by rfl) (by rfl) fun n st => init_bad_b
    · exact fun n st => refused_ok (by rfl) (by rw [ve_str]; simp) fun n st => init_bad_s
    · exact fun n st => refused_ok (by rfl) (by rfl) fun n st => init_bad_n
    · exact wi _ (by rfl)
    · exact fun n st => refused_ok (by rfl) (by rfl) fun n st => init_bad_t
    · exact wi _ (by rfl)
  · simp! [us_law_14, take_ok, e]
theorem main_ok (k : Kind K) {n : Nat} {s0 : Option PV} {h : Hd} : ∃ st', exSs (Gd T (n + 9) none) (b_law.drop 2) [s0, some (.obj 1), some (.int (FK.pr K)), none, none, none, none, none, none, none, none, none, none, none] (hst h []) = .rt (.bl true) st' := by
  have e2 : exS (Gd T (n + 9) none) s_law_2 [s0, some (.obj 1), some (.int (FK.pr K)), none, none, none, none, none, none, none, none, none, none, none] (hst h []) = .nx [s0, some (.obj 1), some (.int (FK.pr K)), some (figV K), none, none, none, none, none, none, none, none, none, none] (hst h []) := by
    simp! [us_law_2, fig_make (K := K) (n := n + 7) k.known k.zero k.one]
  obtain ⟨ys, h4, tl, j, e4, hj, ⟨y0, zs, rfl⟩, hys⟩ := s4_ok k (n := n) (s0 := s0) (s5 := none) (s6 := none) (s7 := none) (s8 := none) (s9 := none) (s10 := none) (s11 := none) (s12 := none) (h := h)
  have hj2 : (hst h4 tl)[j + 2]? = some (.lst ((y0 :: zs).map FK.enc)) := hj
  have hw : watch (hst h4 tl) [(j + 2, (y0 :: zs).map FK.enc)] = true := by simp! [hj2]
  obtain ⟨a5, o5, e5⟩ := outer_loop (n := n + 1) (s0 := s0) (s1 := some (.obj 1)) (s13 := none) k hys hj2 hw (y0 :: zs) none none hys
  have e5' : exS (Gd T (n + 9) none) s_law_5 [s0, some (.obj 1), some (.int (FK.pr K)), some (figV K), some (.obj (j + 2)), none, none, none, none, none, none, none, none, none] (hst h4 tl) = .nx [s0, some (.obj 1), some (.int (FK.pr K)), some (figV K), some (.obj (j + 2)), a5, none, none, none, none, none, none, o5, none] (hst h4 tl) := by
    simp! [us_law_5, hj2, e5]
  obtain ⟨m, h6, e6, hm⟩ := many_ex (n := n + 6) (h := h4) (tl := tl) (fr := [s0, some (.obj 1), some (.int (FK.pr K)), some (figV K), some (.obj (j + 2)), a5, none, none, none, none, none, none, o5, none]) rfl
  have e6 : exS (Gd T (n + 9) none) s_law_6 [s0, some (.obj 1), some (.int (FK.pr K)), some (figV K), some (.obj (j + 2)), a5, none, none, none, none, none, none, o5, none] (hst h4 tl) = .nx [s0, some (.obj 1), some (.int (FK.pr K)), some (figV K), some (.obj (j + 2)), a5, some (.int m), none, none, none, none, none, o5, none] (hst h6 tl) := e6
  have q1 := fr_sz (h := h6)
  have q2 := fr_sz (h := frH h6)
  have e7 : exS (Gd T (n + 9) none) s_law_7 [s0, some (.obj 1), some (.int (FK.pr K)), some (figV K), some (.obj (j + 2)), a5, some (.int m), none, none, none, none, none, o5, none] (hst h6 tl) = .nx [s0, some (.obj 1), some (.int (FK.pr K)), some (figV K), some (.obj (j + 2)), a5, some (.int m), some (rat (frV h6)), none, none, none, none, o5, none] (hst (frH h6) tl) := by
    simp! [us_law_7, fr_ok]
  have e8 : exS (Gd T (n + 9) none) s_law_8 [s0, some (.obj 1), some (.int (FK.pr K)), some (figV K), some (.obj (j + 2)), a5, some (.int m), some (rat (frV h6)), none, none, none, none, o5, none] (hst (frH h6) tl) = .nx [s0, some (.obj 1), some (.int (FK.pr K)), some (figV K), some (.obj (j + 2)), a5, some (.int m), some (rat (frV h6)), some (rat (frV (frH h6))), none, none, none, o5, none] (hst (frH (frH h6)) tl) := by
    simp! [us_law_8, fr_ok]
  generalize frV h6 = f1 at *
  generalize frV (frH h6) = f2 at *
  generalize frH (frH h6) = h8 at *
  have r1 := fun st => ratios_ok (n := n + 3) (st := st) q1 q2 (by decide)
  have r2 := fun st => k.read (n + 2) f1 m st q1
  have r3 := fun st => k.read (n + 2) f2 (-m) st q2
  have e9 : exS (Gd T (n + 9) none) s_law_9 [s0, some (.obj 1), some (.int (FK.pr K)), some (figV K), some (.obj (j + 2)), a5, some (.int m), some (rat f1), some (rat f2), none, none, none, o5, none] (hst h8 tl) = .nx [s0, some (.obj 1), some (.int (FK.pr K)), some (figV K), some (.obj (j + 2)), a5, some (.int m), some (rat f1), some (rat f2), none, none, none, o5, none] (hst h8 tl) := by
    simp! [us_law_9, r1, r2, r3]
  have r4 := fun st => k.numbers (n + 2) y0 m st (hys y0 List.mem_cons_self) (Nat.lt_trans hm (by decide))
  have hj3 : (hst h8 tl)[j + 2]? = some (.lst (FK.enc y0 :: zs.map FK.enc)) := hj
  have t0 := tk_nn (h := h8) (m := 41) (by decide)
  have t1 := tk_lt (h := h8) (m := 41) (by decide)
  have r5 := fun st => kinds_ok (n := n + 6) (st := st) (a := tkV h8 41 - 20) (b := tkV (tkH h8 41) 61 - 30) (i := m) (by omega) (by omega)
  have e10 : exS (Gd T (n + 9) none) s_law_10 [s0, some (.obj 1), some (.int (FK.pr K)), some (figV K), some (.obj (j + 2)), a5, some (.int m), some (rat f1), some (rat f2), none, none, none, o5, none] (hst h8 tl) = .nx [s0, some (.obj 1), some (.int (FK.pr K)), some (figV K), some (.obj (j + 2)), a5, some (.int m), some (rat f1), some (rat f2), none, none, none, o5, none] (hst (tkH (tkH h8 41) 61) tl) := by
    simp! [us_law_10, hj3, r4, take_ok, r5]
  generalize tkH (tkH h8 41) 61 = h10 at *
  obtain ⟨v9, h11, k9, e11⟩ := s11_ok (n := n) (s0 := s0) (s2 := some (.int (FK.pr K))) (s3 := some (figV K)) (s4 := some (.obj (j + 2))) (s5 := a5) (s7 := some (rat f1)) (s8 := some (rat f2)) (s9 := none) (s10 := none) (s11 := none) (s12 := o5) (s13 := none) hm (h := h10) (tl := tl)
  obtain ⟨v10, h12, k10, e12⟩ := s12_ok (n := n) (s0 := s0) (s2 := some (.int (FK.pr K))) (s3 := some (figV K)) (s4 := some (.obj (j + 2))) (s5 := a5) (s6 := some (.int m)) (s7 := some (rat f1)) (s8 := some (rat f2)) (s9 := some v9) (s10 := none) (s11 := none) (s12 := o5) (s13 := none) (h := h11) (tl := tl)
  have r6 := fun st => made_any (n := n + 5) (st := st) k9 k10
  have r7 := fun st => made_i (n := n + 5) (st := st) (a := m) (b := -7) (k := 60) (by decide) (by omega) (by decide) (by decide)
  have r8 := fun st => mk_i (n := n + 6) (st := st) (a := m) (b := 1) (k := 60) (by decide) (by omega) (by decide) (by decide)
  have e1 : Rat.divInt m 1 = (m : Rat) := Rat.ext (by rw [Rat.num_divInt]; simp) (by rw [Rat.den_divInt]; simp)
  rw [e1] at r8
  have e2' : veq (rat (m : Rat)) (.tup [.int m, .int 1]) = true := by
    unfold rat
    rw [Rat.num_intCast, Rat.den_intCast, ve_tup, vs_cons, vs_cons, vs_nil, ve_int, ve_int]; simp
  have e13 : exS (Gd T (n + 9) none) s_law_13 [s0, some (.obj 1), some (.int (FK.pr K)), some (figV K), some (.obj (j + 2)), a5, some (.int m), some (rat f1), some (rat f2), some v9, some v10, none, o5, none] (hst h12 tl) = .nx [s0, some (.obj 1), some (.int (FK.pr K)), some (figV K), some (.obj (j + 2)), a5, some (.int m), some (rat f1), some (rat f2), some v9, some v10, none, o5, none] (hst h12 tl) := by
    simp! [us_law_13, r6, r7, r8, e2', pur_rat]
  obtain ⟨v14, h14, k14, e14⟩ := s14_ok (n := n) (s0 := s0) (s2 := some (.int (FK.pr K))) (s3 := some (figV K)) (s4 := some (.obj (j + 2))) (s5 := a5) (s6 := some (.int m)) (s7 := some (rat f1)) (s8 := some (rat f2)) (s9 := some v9) (s10 := some v10) (s11 := none) (s12 := o5) (s13 := none) (h := h12) (tl := tl)
  have r9 := fun st => k14 (n + 6) st
  have mk1 := fun st => fig_make (K := K) (n := n + 7) (st := st) k.known k.zero k.one
  have q := fun st => fig_eq (n := n + 9) (K := K) (K' := K) (xn := none) (st := st) (by omega)
  have mk2 := fun st => fig_make (K := Zp 3) (n := n + 7) (st := st) (by rfl) (by rfl) (by rfl)
  have mk3 := fun st => fig_make (K := Zp 2) (n := n + 7) (st := st) (by rfl) (by rfl) (by rfl)
  have q2 := fun st => fig_eq (n := n + 9) (K := K) (K' := Zp 3) (xn := none) (st := st) (by omega)
  have q3 := fun st => fig_eq (n := n + 9) (K := K) (K' := Zp 2) (xn := none) (st := st) (by omega)
  rw [show FK.pr (Zp 3) = 3 from rfl] at mk2 q2
  rw [show FK.pr (Zp 2) = 2 from rfl] at mk3 q3
  have e15 : exS (Gd T (n + 9) none) s_law_15 [s0, some (.obj 1), some (.int (FK.pr K)), some (figV K), some (.obj (j + 2)), a5, some (.int m), some (rat f1), some (rat f2), some v9, some v10, some v14, o5, none] (hst h14 tl) = .rt (.bl true) (hst h14 tl) := by
    by_cases c : FK.pr K = 2
    · have c2 : (FK.pr K = 3) = False := eq_false (by omega)
      have c1 : (FK.pr K = 2) = True := eq_true c
      simp! [us_law_15, r9, mk1, q, mk2, mk3, q2, q3, c1, c2]
    · simp! [us_law_15, r9, mk1, q, mk2, mk3, q2, q3, c]
  refine ⟨hst h14 tl, ?_⟩
  rw [show b_law.drop 2 = [s_law_2, s_law_3, s_law_4, s_law_5, s_law_6, s_law_7, s_law_8, s_law_9, s_law_10, s_law_11, s_law_12, s_law_13, s_law_14, s_law_15] from rfl]
  rw [seq_cons e2, seq_cons (s3_ok k), seq_cons e4, seq_cons e5', seq_cons e6, seq_cons e7, seq_cons e8, seq_cons e9, seq_cons e10, seq_cons e11, seq_cons e12, seq_cons e13, seq_cons e14, ss_cons, e15]
  rfl
end
theorem plain (ns : List Int) (hn : ns.length ≤ 63) : ∃ st, callN T 20 43 [.flst (ns.map PV.int)] [] = .ok (.bl true) st := by
  obtain ⟨h, eh⟩ := hand_ok (n := 18) hn
  have g0 := tk_nn (h := h) (m := 9) (by decide)
  have g1 := tk_lt (h := h) (m := 9) (by decide)
  obtain ⟨x, hx, e⟩ := at_mem (l := [PV.int 0, .int 5, .int 3, .int 7, .int 2, .int 13, .int 0, .int 11, .int 5]) g0 g1
  have key : ∃ st', exSs (Gd T 19 none) (b_law.drop 2) [some (.flst (ns.map PV.int)), some (.obj 1), some x, none, none, none, none, none, none, none, none, none, none, none] (hst (tkH h 9) []) = .rt (.bl true) st' := by
    simp only [List.mem_cons, List.not_mem_nil, or_false] at hx
    rcases hx with rfl | rfl | rfl | rfl | rfl | rfl | rfl | rfl | rfl
    · exact main_ok (n := 10) kind_rat
    · exact main_ok (n := 10) (kind_zp 5)
    · exact main_ok (n := 10) (kind_zp 3)
    · exact main_ok (n := 10) (kind_zp 7)
    · exact main_ok (n := 10) (kind_zp 2)
    · exact main_ok (n := 10) (kind_zp 13)
    · exact main_ok (n := 10) kind_rat
    · exact main_ok (n := 10) (kind_zp 11)
    · exact main_ok (n := 10) (kind_zp 5)
  obtain ⟨st', ek⟩ := key
  have e0 : exS (Gd T 19 none) s_law_0 [some (.flst (ns.map PV.int)), none, none, none, none, none, none, none, none, none, none, none, none, none] [] = .nx [some (.flst (ns.map PV.int)), some (.obj 1), none, none, none, none, none, none, none, none, none, none, none, none] (hst h []) := by
    simp! [us_law_0, eh]
  have e1 : exS (Gd T 19 none) s_law_1 [some (.flst (ns.map PV.int)), some (.obj 1), none, none, none, none, none, none, none, none, none, none, none, none] (hst h []) = .nx [some (.flst (ns.map PV.int)), some (.obj 1), some x, none, none, none, none, none, none, none, none, none, none, none] (hst (tkH h 9) []) := by
    simp! [us_law_1, take_ok, e]
  obtain ⟨s2, es⟩ := gc_any (st := []) (v := .bl true) (st1 := st')
  refine ⟨s2, ?_⟩
  rw [c_law, show b_law = s_law_0 :: s_law_1 :: b_law.drop 2 from rfl, seq_cons e0, seq_cons e1, ek, fin_rt, es]

end Lk00

theorem PySem.Challenge.cw_sparedproducts_k00_whole_numbers_reckone_holds : PySem.Challenge.rw_sparedproducts_k00_whole_numbers_reckone.Holds := by
  exact Lk00_holds 20 (by decide) Lk00.plain
